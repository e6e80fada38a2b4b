/- Part 18: Tag4, Term1. Conditions: as each part says. -/
import Derived.Test.YtlcbipfmodcedaaGreatDoorRfn17
set_option linter.unusedVariables false
set_option linter.unusedSimpArgs false
set_option maxRecDepth 20000
set_option maxHeartbeats 8000000
namespace Go.Proofs.YtlcbipfmodcedaaGreatDoor
open Go.Sx Go.Our
open Tryz
theorem Zdl{p:List UInt8->Bool}{ps:List (List UInt8)}:YB p ps 0=Z55 p ps:=by
 unfold YB;cases ps<;>rfl
theorem ZeV(s:List UInt8)(hs:s.length<=34359738368):Does prog tab 161 0 [.str s] [] [] (Val (.tup [.agg (anyN 7), .int .i64 (if tagP (Zr s)=true then 0 else 61)])):=by
 have hbulk:=Z1e s;have hlen:=Z0C s;generalize hps:Zr s=ps at*;have hb:JC ps+ps.length<=68719476736:=by unfold JC;omega
 have hsm:=Z0b (ps:=ps) (by omega);refine Does.enter Z0 call161 func161 rfl 56 rfl rfl [.cell 2 223, .tmp 3] rfl ?_;intro w0 F η0 h0;conv=>whnf
 refine CALL.newS (Zbl s (by omega)) rfl (Yh _) ?_;rw[hps,List.length_map];conv=>whnf
 refine CALL.nilCell 2 5 1 rfl rfl ?_;refine CALL.nilCell 2 6 1 rfl rfl ?_;refine CALL.aA [2,1,3,4] (Vi 211 _ ps (fun s hs=>Vx s) 0 ps.length (by omega) [] [] [] [] 0 0 []) ?_;rintro r O' nx' ⟨rfl,rfl,rfl⟩;rw[Zdl];conv=>whnf
 refine IF.mk (fun h1=>?_) (fun h1=>?_)
 ·have h1:Z55 ZY ps=false:=by simpa using h1
  conv=>whnf
  repeat'((first|refine AU ?_|(refine IW ?_ ?_<;>intro h<;>try(exfalso;omega)))<;>conv=>whnf)
  refine CALL.aA [2,1,3,4] (Z61 ps (by omega) 0 ps.length (by omega) [] [] 0 0 []) ?_;rintro r O' nx' ⟨i1,m1,L,E,him1,rfl,hL,rfl,rfl⟩;cases h2:JI (ps.drop 0)with
  |none=>
   have htag:tagP ps=false:=by
    have h2:JI ps=none:=h2;unfold tagP;rw[if_neg (by simp[h1]),h2]
   rw[Option.isSome_none];conv=>whnf
   repeat'((first|refine AU ?_|(refine IW ?_ ?_<;>intro h<;>try(exfalso;omega)))<;>conv=>whnf)
   refine FIN.anyA 7 h0 rfl rfl rfl ⟨?_,rfl,rfl⟩;rw[htag];rfl
  |some l1=>
   have hl1:=hL l1 h2;subst hl1;rw[Option.isSome_some];conv=>whnf
   repeat'((first|refine AU ?_|(refine IW ?_ ?_<;>intro h<;>try(exfalso;omega)))<;>conv=>whnf)
   refine CALL.aA [2,1,3,4] (Zdk ps (by omega) i1 m1 him1 L E []) ?_;rintro r O' nx' ⟨i2,m2,S,R,him2,rfl,hR,rfl,rfl⟩;cases h3:Xv (ps.drop i1)with
   |none=>
    have htag:tagP ps=false:=by
     have h2:JI ps=_:=h2;unfold tagP;rw[if_neg (by simp[h1]),h2];simp only[h3]
    rw[Option.isSome_none];conv=>whnf
    repeat'((first|refine AU ?_|(refine IW ?_ ?_<;>intro h<;>try(exfalso;omega)))<;>conv=>whnf)
    refine FIN.anyA 7 h0 rfl rfl rfl ⟨?_,rfl,rfl⟩;rw[htag];rfl
   |some l2=>
    have hl2:=hR l2 h3;subst hl2
    have htag:tagP ps=VJ (ps.drop i2):=by
     have h2:JI ps=_:=h2;unfold tagP;rw[if_neg (by simp[h1]),h2];simp only[h3]
    rw[Option.isSome_some];conv=>whnf
    repeat'((first|refine AU ?_|(refine IW ?_ ?_<;>intro h<;>try(exfalso;omega)))<;>conv=>whnf)
    refine CALL.aA [2,1,3,4] (Zbp 211 _ ps (fun s hs=>Vx s) (i2) (m2) (by omega) L E S R 0 0 []) ?_;rintro r O' nx' ⟨rfl,rfl,rfl⟩;conv=>whnf
    refine IF.mk (fun h1=>?_) (fun h1=>?_)
    ·obtain⟨w,hw,hwm⟩:=ZK h1;have hlt:=(List.getElem?_eq_some_iff.1 hw).1;have hlast:VJ (ps.drop (i2))=decide (ZS (YL 1) (ps.drop (i2+1))≠0/\ZS (YL 1) (ps.drop (i2+1))=(ps.drop (i2+1)).length):=by rw[ZU hw];simp only[VJ];rw[if_pos hwm]
     rw[List.length_drop]at hlast;obtain⟨k',hk'⟩:∃k',m2=k'+1:=⟨m2-1,by omega⟩;have hwl:=hsm w (List.mem_of_getElem? hw);rw[hk'];conv=>whnf
     refine CALL.aA [2,1,3,4] (WN ps (i2) k' (by omega) w hw L E S R 0 0 []) ?_;rintro r O' nx' ⟨rfl,rfl,rfl⟩;conv=>whnf
     refine CALL.aA [2,1,3,4] (Zbq 1 ps (by omega) (i2+1) k' (by omega) L E S R 0 0 []) ?_;rintro r O' nx' ⟨n,x,hn,hxl,rfl,rfl,rfl⟩;have hn:n=ZS (YL 1) (ps.drop (i2+1)):=hn;have hnle:n<=(ps.drop (i2+1)).length:=by rw[hn];exact VI _ _
     rw[List.length_drop]at hnle;rw[<-hn]at hlast;conv=>whnf
     repeat'((first|refine AU ?_|(refine IW ?_ ?_<;>intro h<;>try(exfalso;omega)))<;>conv=>whnf)
     all_goals
      refine FIN.anyA 7 h0 rfl rfl rfl ⟨?_,rfl,rfl⟩;rw[htag,hlast]
     ·rw[if_neg (by simp_all)]
     ·rw[if_neg (by simp;omega)]
     ·rw[if_pos (by simp;simp at*;omega)]
    ·have hlast:VJ (ps.drop (i2))=decide (m2=0):=by
      rcases XK h1 with h2|⟨x,h3,h2,h4⟩
      ·rw[h2];have:=congrArg List.length h2;rw[List.length_drop,List.length_nil]at this;simp only[VJ];symm;exact decide_eq_true (by omega)
      ·have:=(List.getElem?_eq_some_iff.1 h3).1;rw[h2];simp only[VJ];rw[if_neg (by simp[h4])];symm;exact decide_eq_false (by omega)
     conv=>whnf
     repeat'((first|refine AU ?_|(refine IW ?_ ?_<;>intro h<;>try(exfalso;omega)))<;>conv=>whnf)
     all_goals
      refine FIN.anyA 7 h0 rfl rfl rfl ⟨?_,rfl,rfl⟩;rw[htag,hlast]
     ·rw[if_neg (by rw[decide_eq_true_iff];omega)]
     ·rw[if_pos (by rw[decide_eq_true_iff];omega)]
 ·have h1:Z55 ZY ps=true:=by simpa using h1
  have htag:tagP ps=VJ (ps.drop 0):=by unfold tagP;rw[if_pos h1];rfl
  conv=>whnf
  repeat'((first|refine AU ?_|(refine IW ?_ ?_<;>intro h<;>try(exfalso;omega)))<;>conv=>whnf)
  refine CALL.aA [2,1,3,4] (Vi 211 _ ps (fun s hs=>Vx s) (0) (ps.length) (by omega) [] [] [] [] 0 0 []) ?_;rintro r O' nx' ⟨rfl,rfl,rfl⟩;conv=>whnf
  refine IF.mk (fun h1=>?_) (fun h1=>?_)
  ·obtain⟨w,hw,hwm⟩:=ZK h1;have hlt:=(List.getElem?_eq_some_iff.1 hw).1;have hlast:VJ (ps.drop (0))=decide (ZS (YL 1) (ps.drop (0+1))≠0/\ZS (YL 1) (ps.drop (0+1))=(ps.drop (0+1)).length):=by rw[ZU hw];simp only[VJ];rw[if_pos hwm]
   rw[List.length_drop]at hlast;obtain⟨k',hk'⟩:∃k',ps.length=k'+1:=⟨ps.length-1,by omega⟩;have hwl:=hsm w (List.mem_of_getElem? hw);rw[hk'];conv=>whnf
   refine CALL.aA [2,1,3,4] (YC ps (0) k' (by omega) w hw [] [] [] [] 0 0 []) ?_;rintro r O' nx' ⟨rfl,rfl,rfl⟩;conv=>whnf
   refine CALL.aA [2,1,3,4] (Zdi 1 ps (by omega) (0+1) k' (by omega) [] [] [] [] 0 0 []) ?_;rintro r O' nx' ⟨n,x,hn,hxl,rfl,rfl,rfl⟩;have hn:n=ZS (YL 1) (ps.drop (0+1)):=hn;have hnle:n<=(ps.drop (0+1)).length:=by rw[hn];exact VI _ _
   rw[List.length_drop]at hnle;rw[<-hn]at hlast;conv=>whnf
   repeat'((first|refine AU ?_|(refine IW ?_ ?_<;>intro h<;>try(exfalso;omega)))<;>conv=>whnf)
   all_goals
    refine FIN.anyA 7 h0 rfl rfl rfl ⟨?_,rfl,rfl⟩;rw[htag,hlast]
   ·rw[if_neg (by simp_all)]
   ·rw[if_neg (by simp;omega)]
   ·rw[if_pos (by simp;simp at*;omega)]
  ·have hlast:VJ (ps.drop (0))=decide (ps.length=0):=by
    rcases XK h1 with h2|⟨x,h3,h2,h4⟩
    ·rw[h2];have:=congrArg List.length h2;rw[List.length_drop,List.length_nil]at this;simp only[VJ];symm;exact decide_eq_true (by omega)
    ·have:=(List.getElem?_eq_some_iff.1 h3).1;rw[h2];simp only[VJ];rw[if_neg (by simp[h4])];symm;exact decide_eq_false (by omega)
   conv=>whnf
   repeat'((first|refine AU ?_|(refine IW ?_ ?_<;>intro h<;>try(exfalso;omega)))<;>conv=>whnf)
   all_goals
    refine FIN.anyA 7 h0 rfl rfl rfl ⟨?_,rfl,rfl⟩;rw[htag,hlast]
   ·rw[if_neg (by rw[decide_eq_true_iff];omega)]
   ·rw[if_pos (by rw[decide_eq_true_iff];omega)]
end Go.Proofs.YtlcbipfmodcedaaGreatDoor
namespace Go.Proofs.YtlcbipfmodcedaaGreatDoor
open Go.Sx Go.Our
open Tryz
def ZeW:Plan:=(Zu [(0,1),(1,1),(2,1),(3,1),(6,1),(4,2),(7,2),(5,3),(8,1),(9,1)])
theorem Z7G(k:Int)(t y l:List UInt8)(ht:Sm t)(hy:Sm y)(hl:Sm l):Does prog tab 123 0 [.agg [.int .i64 k, .str t, .str y, .str l]] [] [] (Val (.int .i64 (litM t y l))):=by
 refine Does.enter Z0 call123 func123 rfl 55 rfl rfl [.tmp 2] rfl ?_;intro w0 F η0 h0;conv=>whnf
 repeat'((first|refine DRAWN.of (id:=12) Z0 mixed ZeW (by kernel_rfl) ?_|refine ADD.mk (fun _ _=>?_)|refine AD ?_|refine FORK.mk ?_ ?_|refine CALL.value (Z56 _ ht) rfl rfl ?_|refine CALL.value (Z0D _ hy) rfl rfl ?_|refine CALL.value (ZeV _ (by omega)) rfl rfl ?_|refine CALL.value (Xr _ hl) rfl rfl ?_|(refine CALL.look1 2 (Z63 [(if tagP (Zr l)=true then 0 else 61),61] (by simp)) rfl rfl rfl rfl rfl rfl ?_;conv=>whnf)|refine AU ?_|(refine IW ?_ ?_<;>intro h<;>try(exfalso;omega)))<;>conv=>whnf)
 all_goals
  refine FIN.value h0 rfl (congrArg (SV.int _) ?_);by_cases hy0:y=Yi
  ·have hyb:(y==Yi)=true:=by simp[hy0]
   unfold Yi at hyb;try rw[hyb]at h
   by_cases htg:tagP (Zr l)=true<;>by_cases hlw:Z4 l=l<;>by_cases hl0:l=[]<;>simp_all[litM,Yi,orE]<;>omega
  ·have hyb:(y==Yi)=false:=by simp[hy0]
   unfold Yi at hyb;try rw[hyb]at h
   by_cases htg:tagP (Zr l)=true<;>by_cases hlw:Z4 l=l<;>by_cases hl0:l=[]<;>simp_all[litM,Yi,orE]<;>omega
theorem Up(x:Tm)(hx:TmSm x):Does prog tab 86 0 [.agg [.int .i64 x.k, .str x.t, .str x.y, .str x.l]] [] [] (Val (.int .i64 (JA x))):=by
 obtain⟨ht,hy,hl⟩:=hx;obtain⟨k,t,y,l⟩:=x;dsimp only at ht hy hl⊢;refine Does.enter Z0 call86 func86 rfl 33 rfl rfl [.tmp 2] rfl ?_;intro w0 F η0 h0;conv=>whnf
 repeat'((first|refine CALL.value (Z7G _ _ _ _ ht hy hl) rfl rfl ?_|refine CALL.value (Z0D _ ht) rfl rfl ?_|refine CALL.value (Z92 _ ht) rfl rfl ?_|refine AU ?_|(refine IW ?_ ?_<;>intro h<;>try(exfalso;omega)))<;>conv=>whnf)
 all_goals
  refine FIN.value h0 rfl (congrArg (SV.int _) ?_);unfold JA
  first
   |(simp_all;done)
   |(simp_all<;>omega)
theorem Z7H(x:Tm):Does prog tab 85 0 [.int .i64 0, .agg [.int .i64 x.k, .str x.t, .str x.y, .str x.l]] [] [] (Val (.bool (decide (x.k=1\/x.k=2)))):=by
 refine Does.enter Z0 call85 func85 rfl 49 rfl rfl [.tmp 4] rfl ?_;intro w0 F η0 h0;conv=>whnf
 repeat'((first|refine AU ?_|(refine IW ?_ ?_<;>intro h<;>try(exfalso;omega)))<;>conv=>whnf)
 all_goals
  refine FIN.value h0 rfl (congrArg SV.bool ?_);by_cases h1:x.k=1<;>by_cases h2:x.k=2<;>simp_all
theorem Z7I(x:Tm):Does prog tab 85 0 [.int .i64 1, .agg [.int .i64 x.k, .str x.t, .str x.y, .str x.l]] [] [] (Val (.bool (decide (x.k=1)))):=by
 refine Does.enter Z0 call85 func85 rfl 49 rfl rfl [.tmp 4] rfl ?_;intro w0 F η0 h0;conv=>whnf
 repeat'((first|refine AU ?_|(refine IW ?_ ?_<;>intro h<;>try(exfalso;omega)))<;>conv=>whnf)
 all_goals
  refine FIN.value h0 rfl (congrArg SV.bool ?_);by_cases h1:x.k=1<;>simp_all
theorem Z7J(x:Tm):Does prog tab 85 0 [.int .i64 2, .agg [.int .i64 x.k, .str x.t, .str x.y, .str x.l]] [] [] (Val (.bool (decide (x.k=1\/x.k=2\/x.k=3)))):=by
 refine Does.enter Z0 call85 func85 rfl 49 rfl rfl [.tmp 4] rfl ?_;intro w0 F η0 h0;conv=>whnf
 repeat'((first|refine AU ?_|(refine IW ?_ ?_<;>intro h<;>try(exfalso;omega)))<;>conv=>whnf)
 all_goals
  refine FIN.value h0 rfl (congrArg SV.bool ?_);by_cases h1:x.k=1<;>by_cases h2:x.k=2<;>by_cases h3:x.k=3<;>simp_all
theorem Z7K(x:Tm):Does prog tab 85 0 [.int .i64 3, .agg [.int .i64 x.k, .str x.t, .str x.y, .str x.l]] [] [] (Val (.bool (decide (x.k=1\/x.k=2\/x=ZE)))):=by
 obtain⟨k,t,y,l⟩:=x;dsimp only;refine Does.enter Z0 call85 func85 rfl 49 rfl rfl [.tmp 4] rfl ?_;intro w0 F η0 h0;conv=>whnf
 repeat'((first|refine AU ?_|(refine IW ?_ ?_<;>intro h<;>try(exfalso;omega)))<;>conv=>whnf)
 all_goals
  refine FIN.value h0 rfl (congrArg SV.bool ?_);unfold ZE;by_cases h1:k=1<;>by_cases h2:k=2<;>by_cases h3:k=0<;>cases t<;>cases y<;>cases l<;>simp_all
theorem Z3Q(q:Qd)(hq:QdSm q):Does prog tab 46 0 [q.sv] [] [] (Val (.int .i64 (Vf q))):=by
 obtain⟨hs,hp,ho,hg⟩:=hq;unfold Qd.sv;refine Does.enter Z0 call46 func46 rfl 36 rfl rfl [.tmp 2] rfl ?_;intro w0 F η0 h0;conv=>whnf
 repeat'((first|(refine LOOP.once Z0 ?_;conv=>whnf)|refine CALL.value (Z7H q.s) rfl rfl ?_|refine CALL.value (Z7I q.p) rfl rfl ?_|refine CALL.value (Z7J q.o) rfl rfl ?_|refine CALL.value (Z7K q.g) rfl rfl ?_|refine CALL.value (Up q.s hs) rfl rfl ?_|refine CALL.value (Up q.p hp) rfl rfl ?_|refine CALL.value (Up q.o ho) rfl rfl ?_|refine CALL.value (Up q.g hg) rfl rfl ?_|refine AU ?_|(refine IW ?_ ?_<;>intro h<;>try(exfalso;omega)))<;>conv=>whnf)
 all_goals
  refine FIN.value h0 rfl (congrArg (SV.int _) ?_);have hco:= @Z8S q.o;have hz:q.g=ZE->q.g.k=0:=fun h=>by rw[h];rfl
  unfold Vf;clear hs hp ho hg;by_cases hgz:q.g=ZE
  ·have:=hz hgz;simp_all
  ·by_cases g1:q.g.k=1
   ·simp_all
   ·by_cases g2:q.g.k=2
    ·simp_all
    ·simp_all
end Go.Proofs.YtlcbipfmodcedaaGreatDoor
