import Derived.Test.YtlcbipfmodcedaaGreatDoorTxt8
set_option linter.unusedVariables false
set_option linter.unusedSimpArgs false
set_option maxRecDepth 20000
set_option maxHeartbeats 8000000
namespace Go.Proofs.YtlcbipfmodcedaaGreatDoor
open Go.Sx Go.Our
open _root_.Go.Proofs.Tryz
theorem UM(q:Qd):(Zx q).length<=4:=by
 have h:∀t,(ZS t).length<=1:=fun t=>by unfold ZS;split<;>simp
 have:=h q.s;have:=h q.p;have:=h q.o;have:=h q.g;unfold Zx;simp only[zg];omega
def Kv(q:Qd):List Tm:=[q.s,q.p,q.o,q.g]
theorem ZjW(q:Qd):Zx q=(Kv q).flatMap ZS:=by simp[Zx,Kv]
def ot(q:Qd)(j:Nat):List (List UInt8):=((Kv q).take j).flatMap ZS
theorem Tg(q:Qd):ot q 4=Zx q:=by rw[ZjW];rfl
theorem Wx(q:Qd):ot q 1=ot q 0++ZS q.s/\ot q 2=ot q 1++ZS q.p/\ot q 3=ot q 2++ZS q.o/\ot q 4=ot q 3++ZS q.g:=by simp[ot,Kv]
theorem VQ{t:Tm}(h:t.k=2):ZS t=[t.t]:=by unfold ZS;rw[zh h]
theorem VR{t:Tm}(h:¬t.k=2):ZS t=[]:=by unfold ZS;rw[z7 h]
theorem Ti(q:Qd)(j:Nat):(ot q j).length<=j:=by
 have h:∀t,(ZS t).length<=1:=fun t=>by unfold ZS;split<;>simp
 unfold ot
 have h2:∀(l:List Tm),(l.flatMap ZS).length<=l.length:=fun l=>by
  induction l with
  |nil=>simp
  |cons t l ih=>have:=h t;simp only[xg,zg,List.length_cons];omega
 have:=h2 ((Kv q).take j);rw[zu]at this;omega
theorem ZaQ(l z:List Qd)(lim:Option Nat)(hl:Xs l)(hz:(l++z).length<=1152921504606846976):uX prog wD 48 1 [.sl (.loc 0) 0 16 l.length lim] [] [(0, .rows 16 ((l++z).map Z4))]
 (ZlM Zh 1 1 ([]:List UInt8) (ZE l).length (qI cmpL (ZE l))):=by
 unfold Xs at hl;have hlen:∀i,((l.take i).flatMap Zx).length<=(l.take i).length*4:=fun i=>EP _ UM _;unfold ZE;refine uX.enter Z0 call48 func48 rfl 37 rfl rfl [.tmp 2] rfl ?_;intro w0 F η0 h0;conv=>whnf
 refine wj.nil 3 1 rfl ?_;refine wj.go Z0 [8,9] (X:=Nat) (fun i=>i<=l.length) (fun i=>[(10, .int .i64 (i:Int)),(3, .sl (.loc 1) 0 1 ((l.take i).flatMap Zx).length none)]) (fun i=>[(1, .rows 1 (((l.take i).flatMap Zx).map Zh))]) 2 (fun i=>l.length-i) 0 (by omega) ?_;conv=>whnf
 refine⟨by exact w5.cA h0,?_⟩;intro i hi;have sw:=hlen i;rw[zu,yQ hi]at sw;conv=>whnf
 by_cases hil:i<l.length
 .have hs:=Tf Zx hil;generalize(l.take i).flatMap Zx=out at*;repeat'(first|refine GET.at (row:=Z4 (l[i]'(by omega))) (AK (by omega) (by omega)) ?_|refine AU ?_|refine IW ?_ ?_<;>intro h<;>try omega)<;>conv=>whnf
  refine CALL.aA [2] (ZfZ (l[i]'(by omega))) ?_;rintro r O nx ⟨rfl,rfl,rfl⟩;conv=>whnf
  refine wj.go Z0 [8,9,10,14] (X:=Nat×List (List UInt8)) (fun x=>x.1<=4/\x.2=out++ot l[i] x.1) (fun x=>[(15, .int .i64 (x.1:Int)),(3, .sl (.loc 1) 0 1 x.2.length none)]) (fun x=>[(1, .rows 1 (x.2.map Zh)),(2, .box (Z4 l[i]))]) 3 (fun x=>4-x.1) (0,out) ⟨by simp,by simp[ot]⟩ ?_;conv=>whnf
  refine⟨by exact w5.cA h0,?_⟩;rintro⟨j,o2⟩ ⟨hj,gp⟩;dsimp only at hj gp⊢;have hfl:=Ti l[i] j;have AL:o2.length<=i*4+j:=by rw[gp,zg];omega
  by_cases QA:j<4
  .obtain rfl|rfl|rfl|rfl:j=0\/j=1\/j=2\/j=3:=by omega
   .have hst:=(Wx l[i]).1;conv=>whnf
    repeat'(first|refine wm.mk ⟨by decide,by decide,rfl⟩ ?_|refine wm.mk (Zm 16 rfl rfl rfl (by simp) (by omega)) ?_|refine AU ?_|refine IW ?_ ?_<;>intro h<;>try omega)<;>conv=>whnf
    .refine⟨(1,o2++ [l[i].s.t]),⟨by simp,by dsimp only;rw[hst,VQ h,gp,zM]⟩,by simp,?_⟩;dsimp only;conv=>whnf
     (refine w5.wV h0 [4,2] rfl rfl rfl (by first|rfl|(simp only[Zj,Zi,Z2 _ (Zt _),zD,zG]<;>rfl)) ?_ ?_<;>(repeat'(first|(with_reducible rfl)|(exact Zl (Zt _) (Zb _ (Zt _)))|(exact Zl (Zt _) (by(simp[zi,Yy,Zh])))|(exact Ya rfl (by first|(simp;done)|omega|(simp;omega)))|(exact ze (SV.int _) (by first|omega|(simp(disch:=omega) only[qL,Z5,Zn]<;>omega)|(simp;done)|(simp<;>omega)))|((conv=>whnf);refine⟨?_,?_⟩)|exact trivial|(simp only[wR,qo];done)|rfl)))
    .refine⟨(1,o2),⟨by simp,by dsimp only;rw[hst,VR h,gp,zO]⟩,by simp,?_⟩;dsimp only;conv=>whnf
     exact w5.cA h0
   .have hst:=(Wx l[i]).2.1;conv=>whnf
    repeat'(first|refine wm.mk ⟨by decide,by decide,rfl⟩ ?_|refine wm.mk (Zm 16 rfl rfl rfl (by simp) (by omega)) ?_|refine AU ?_|refine IW ?_ ?_<;>intro h<;>try omega)<;>conv=>whnf
    .refine⟨(2,o2++ [l[i].p.t]),⟨by simp,by dsimp only;rw[hst,VQ h,gp,zM]⟩,by simp,?_⟩;dsimp only;conv=>whnf
     (refine w5.wV h0 [4,2] rfl rfl rfl (by first|rfl|(simp only[Zj,Zi,Z2 _ (Zt _),zD,zG]<;>rfl)) ?_ ?_<;>(repeat'(first|(with_reducible rfl)|(exact Zl (Zt _) (Zb _ (Zt _)))|(exact Zl (Zt _) (by(simp[zi,Yy,Zh])))|(exact Ya rfl (by first|(simp;done)|omega|(simp;omega)))|(exact ze (SV.int _) (by first|omega|(simp(disch:=omega) only[qL,Z5,Zn]<;>omega)|(simp;done)|(simp<;>omega)))|((conv=>whnf);refine⟨?_,?_⟩)|exact trivial|(simp only[wR,qo];done)|rfl)))
    .refine⟨(2,o2),⟨by simp,by dsimp only;rw[hst,VR h,gp,zO]⟩,by simp,?_⟩;dsimp only;conv=>whnf
     exact w5.cA h0
   .have hst:=(Wx l[i]).2.2.1;conv=>whnf
    repeat'(first|refine wm.mk ⟨by decide,by decide,rfl⟩ ?_|refine wm.mk (Zm 16 rfl rfl rfl (by simp) (by omega)) ?_|refine AU ?_|refine IW ?_ ?_<;>intro h<;>try omega)<;>conv=>whnf
    .refine⟨(3,o2++ [l[i].o.t]),⟨by simp,by dsimp only;rw[hst,VQ h,gp,zM]⟩,by simp,?_⟩;dsimp only;conv=>whnf
     (refine w5.wV h0 [4,2] rfl rfl rfl (by first|rfl|(simp only[Zj,Zi,Z2 _ (Zt _),zD,zG]<;>rfl)) ?_ ?_<;>(repeat'(first|(with_reducible rfl)|(exact Zl (Zt _) (Zb _ (Zt _)))|(exact Zl (Zt _) (by(simp[zi,Yy,Zh])))|(exact Ya rfl (by first|(simp;done)|omega|(simp;omega)))|(exact ze (SV.int _) (by first|omega|(simp(disch:=omega) only[qL,Z5,Zn]<;>omega)|(simp;done)|(simp<;>omega)))|((conv=>whnf);refine⟨?_,?_⟩)|exact trivial|(simp only[wR,qo];done)|rfl)))
    .refine⟨(3,o2),⟨by simp,by dsimp only;rw[hst,VR h,gp,zO]⟩,by simp,?_⟩;dsimp only;conv=>whnf
     exact w5.cA h0
   .have hst:=(Wx l[i]).2.2.2;conv=>whnf
    repeat'(first|refine wm.mk ⟨by decide,by decide,rfl⟩ ?_|refine wm.mk (Zm 16 rfl rfl rfl (by simp) (by omega)) ?_|refine AU ?_|refine IW ?_ ?_<;>intro h<;>try omega)<;>conv=>whnf
    .refine⟨(4,o2++ [l[i].g.t]),⟨by simp,by dsimp only;rw[hst,VQ h,gp,zM]⟩,by simp,?_⟩;dsimp only;conv=>whnf
     (refine w5.wV h0 [4,2] rfl rfl rfl (by first|rfl|(simp only[Zj,Zi,Z2 _ (Zt _),zD,zG]<;>rfl)) ?_ ?_<;>(repeat'(first|(with_reducible rfl)|(exact Zl (Zt _) (Zb _ (Zt _)))|(exact Zl (Zt _) (by(simp[zi,Yy,Zh])))|(exact Ya rfl (by first|(simp;done)|omega|(simp;omega)))|(exact ze (SV.int _) (by first|omega|(simp(disch:=omega) only[qL,Z5,Zn]<;>omega)|(simp;done)|(simp<;>omega)))|((conv=>whnf);refine⟨?_,?_⟩)|exact trivial|(simp only[wR,qo];done)|rfl)))
    .refine⟨(4,o2),⟨by simp,by dsimp only;rw[hst,VR h,gp,zO]⟩,by simp,?_⟩;dsimp only;conv=>whnf
     exact w5.cA h0
  .obtain rfl:j=4:=by omega
   rw[Tg]at gp;conv=>whnf
   repeat'(first|refine IW ?_ ?_<;>intro h<;>try omega)<;>conv=>whnf
   refine⟨i+1,by omega,by omega,?_⟩;rw[hs,<-gp];conv=>whnf
   exact w5.cA h0
 .have hie:i=l.length:=by omega
  subst hie;rw[zX]at sw⊢;generalize l.flatMap Zx=out at*;have hm:(out.mergeSort (kK cmpL)).length=out.length:=yw out;have jm:=BI (out.mergeSort (kK cmpL));have nW:(Z6 (out.mergeSort (kK cmpL))++List.replicate ((out.mergeSort (kK cmpL)).length-(Z6 (out.mergeSort (kK cmpL))).length) ([]:List UInt8)).length*16<=140741783322624:=by rw[zg,yN];omega
  repeat'(first|refine IW ?_ ?_<;>intro h<;>try omega)<;>conv=>whnf
  refine CALL.aA [1] (Zdx out (by omega)) ?_;rintro r O nx ⟨rfl,rfl,rfl⟩;conv=>whnf
  rw[<-hm];refine CALL.aA [1] (Z7q (out.mergeSort (kK cmpL)) (by omega)) ?_;rintro r O nx ⟨rfl,rfl,rfl⟩;conv=>whnf
  refine CALL.aA [1] (Zdv (Z6 (out.mergeSort (kK cmpL))++List.replicate ((out.mergeSort (kK cmpL)).length-(Z6 (out.mergeSort (kK cmpL))).length) ([]:List UInt8)) (Z6 (out.mergeSort (kK cmpL))).length (by simp) nW) ?_;rintro r O nx ⟨rfl,rfl,rfl⟩;conv=>whnf
  refine wh.aA h0 [1] (.sl (.loc 1) 0 1 (qI cmpL out).length (some (qI cmpL out).length)) [(1, .rows 1 ((qI cmpL out++List.replicate ((out.mergeSort (kK cmpL)).length-(Z6 (out.mergeSort (kK cmpL))).length) ([]:List UInt8)).map Zh))] ?_;exact⟨_,by unfold qI;omega,rfl,rfl,rfl⟩
end Go.Proofs.YtlcbipfmodcedaaGreatDoor
namespace Go.Proofs.YtlcbipfmodcedaaGreatDoor
open Go.Sx Go.Our
open _root_.Go.Proofs.Tryz
def ZdQ:wP:=(Zr [(0,1),(1,1),(2,1),(3,1),(4,1),(6,1),(7,1),(8,1),(9,1),(10,1),(5,3),(11,3),(12,1),(13,1)])
def XT:wP:=(Zr [(0,1),(1,1),(2,1),(3,1),(4,1),(5,1),(6,1),(7,1),(8,1),(9,1),(11,1),(12,1),(10,2),(13,2),(14,3),(15,1),(16,1),(17,1)])
def XU:wP:=(Zr [(0,1),(1,1),(2,1),(3,1),(4,1),(5,1),(6,1),(7,1),(8,1),(9,2),(10,2),(11,1),(12,1)])
theorem Dc{K:Type}[DecidableEq K]{out:List K}{q:K}(h:out.length=0\/∃h0:0<out.length,out[out.length-1]'(by omega)≠q):nU out q=out++ [q]:=by
 unfold nU;rcases h with h|⟨h0,h⟩
 .have:=zJ.1 h;subst this;rfl
 .have hne:out≠ []:=fun e=>by subst e;simp at h0
  rw[vw hne,vn];simp only;rw[zh h]
theorem Dd{K:Type}[DecidableEq K]{out:List K}{q:K}(h:∃h0:0<out.length,out[out.length-1]'(by omega)=q):nU out q=out:=by
 obtain⟨h0,h⟩:=h;unfold nU;have hne:out≠ []:=fun e=>by subst e;simp at h0
 rw[vw hne,vn];simp only;rw[z7 (by simpa using h)]
theorem ZdR{K:Type}[DecidableEq K]{c:K->K->Int}(out:List K):Yv c out [] []=out:=by unfold Yv;rfl
theorem Iw{K:Type}[DecidableEq K]{c:K->K->Int}{out a b:List K}(x:K)(h:b=[]\/∃y t,b=y::t/\c x y<=0):Yv c out (x::a) b=Yv c (nU out x) a b:=by
 rcases h with rfl|⟨y,t,rfl,h⟩
 conv=>lhs;unfold Yv
 .conv=>lhs;unfold Yv
  rw[zh h]
theorem Iy{K:Type}[DecidableEq K]{c:K->K->Int}{out a b:List K}(y:K)(h:a=[]\/∃x t,a=x::t/\¬c x y<=0):Yv c out a (y::b)=Yv c (nU out y) a b:=by
 rcases h with rfl|⟨x,t,rfl,h⟩
 conv=>lhs;unfold Yv
 .conv=>lhs;unfold Yv
  rw[z7 h]
theorem Iz{l:List Tm}:(og YI l).length<=l.length:=by
 rw[Eg oK _ l (zo _)];exact Kk l
theorem YJ{l:List Tm}{i k:Nat}(h:i<l.length)(e:k=i):(l.map ZD)[k]?=some (ZD l[i]):=by subst e;rw[z6,z1 h];rfl
abbrev De(out:List Tm)(q:Tm):Prop:=out.length=0\/∃h0:0<out.length,out[out.length-1]'(by omega)≠q
theorem ON(A:List Tm)(hA:A.length*56<=140737488351232):∀(k n i:Nat) (hk:n<=k) (hi:i+n<=A.length),uX prog wD 80 1 [.sl (.loc 0) i 4 n none] [] [(0, .rows 4 (A.map ZD))] (Qz ZD 4 1 (og YI ((A.drop i).take n)))
 |k,n,i,hk,hi=>by
  obtain⟨l,hl⟩:∃l,l=(A.drop i).take n:=⟨_,rfl⟩;have bh:l.length=n:=by rw[hl];simp;omega
  have hrows:((A.map ZD).drop i).take n=l.map ZD:=by rw[hl,xx,vL]
  rw[<-hl];refine uX.enter Z0 call80 func80 rfl 79 rfl rfl [.tmp 2] rfl ?_;intro w0 F η0 h0;conv=>whnf
  repeat'(first|rw[hrows]|refine wm.mk (Zm 56 rfl rfl (by rw[zA];exact bh) (by simp) (by omega)) ?_|refine IW ?_ ?_<;>intro h<;>try omega)<;>conv=>whnf
  .have hs:og YI l=l:=by unfold og;rw[zh (by omega)]
   rw[hs];rw[zy];exact wh.rows h0 2 4 n rfl rfl rfl (Zc _) ⟨by rw[bh],rfl,rfl⟩
  .have hs:og YI l=Yv YI [] (og YI (l.take (n/2))) (og YI (l.drop (n/2))):=by
    conv=>lhs;unfold og
    rw[z7 (by omega),bh]
   have e1:l.take (n/2)=(A.drop i).take (n/2):=by rw[hl,v7,yQ (by omega)]
   have e2:l.drop (n/2)=(A.drop (i+n/2)).take (n-n/2):=by rw[hl,uy,yt]
   have hn2:2<=n:=by omega
   obtain⟨k',rfl⟩:∃k',k=k'+1:=⟨k-1,by omega⟩;have r1:=ON A hA k' (n/2) i (by omega) (by omega);have r2:=ON A hA k' (n-n/2) (i+n/2) (by omega) (by omega);rw[<-e1]at r1;rw[<-e2]at r2;have l1:=Iz (l:=l.take (n/2));have l2:=Iz (l:=l.drop (n/2));generalize og YI (l.take (n/2))=X at r1 hs l1;generalize og YI (l.drop (n/2))=Y at r2 hs l2;have hw:IntKind.i64.wrap (Int.tdiv (n:Int) 2)=((n/2:Nat):Int):=by rw[yZ (by omega),Z5 (by omega) (by omega)];omega
   repeat'(first|refine Z3 3 ZdQ ?_|refine qJ.mk (fun _ _=>?_)|refine AD ?_|rw[hw]|rw[Int.toNat_natCast]|refine AU ?_)<;>conv=>whnf
   refine CALL.aA [0] (r1) ?_;rintro r O nx ⟨rfl,rfl,rfl⟩;conv=>whnf
   repeat'(first|refine qJ.mk (fun _ _=>?_))<;>conv=>whnf
   refine CALL.aA [0] (r2) ?_;rintro r O nx ⟨rfl,rfl,rfl⟩;conv=>whnf
   skip
   refine wj.nil 5 4 rfl ?_
   refine wj.go Z0 [] (X:=List Tm×Nat×Nat) (fun x=>x.2.1<=X.length/\x.2.2<=Y.length/\x.1.length<=x.2.1+x.2.2/\og YI l=Yv YI x.1 (X.drop x.2.1) (Y.drop x.2.2))
    (fun x=>[(3, .sl (.loc 1) x.2.1 4 (X.length-x.2.1) none),(4, .sl (.loc 2) x.2.2 4 (Y.length-x.2.2) none),(5, .sl (.loc 3) 0 4 x.1.length none)]) (fun x=>[(1, .rows 4 (X.map ZD)),(2, .rows 4 (Y.map ZD)),(3, .rows 4 (x.1.map ZD))]) 4 (fun x=>(X.length-x.2.1)+(Y.length-x.2.2)) ([],0,0) ⟨by simp,by simp,by simp,hs⟩ ?_
   conv=>whnf
   refine⟨by exact w5.cA h0,?_⟩;rintro⟨out,p,q⟩ ⟨hp,hq,ho,hr⟩;dsimp only at hp hq ho hr⊢;have ga:X.length+Y.length<=A.length:=by simp at l1 l2;omega
   have qb:∀(h:0<out.length),IntKind.i64.wrap ((out.length:Int)-1)=((out.length-1:Nat):Int):=fun h=>by rw[Z5 (by omega) (by omega)];omega
   by_cases oP:p<X.length<;>by_cases fL:q<Y.length
   .have ha:X.drop p=X[p]::X.drop (p+1):=zq oP;have hb:Y.drop q=Y[q]::Y.drop (q+1):=zq fL;rw[ha,hb]at hr;by_cases hc:YI X[p] Y[q]<=0
    .rw[Iw _ (.inr ⟨_,_,rfl,hc⟩),<-hb]at hr
     have QT:De out X[p]\/∃h0:0<out.length,out[out.length-1]'(by omega)=X[p]:=by
      by_cases h0:out.length=0
      exact .inl (.inl h0)
      .by_cases he:out[out.length-1]'(by omega)=X[p]
       exact .inr ⟨by omega,he⟩;exact .inl (.inr ⟨by omega,he⟩)
     rcases QT with hN|hN
     .have hr:=hr.trans (ze (fun z=>Yv YI z (X.drop (p+1)) (Y.drop q)) (Dc hN));conv=>whnf
      repeat'(first|refine Z3 7 XT ?_|refine Z3 12 XU ?_|refine qJ.mk (fun _ _=>?_)|refine CALL.value (Xe _ _) rfl rfl ?_|refine wm.mk (Zm 56 rfl rfl rfl (by simp) (by omega)) ?_|refine GET.at (row:=ZD (X[p]'(by omega))) (YJ (by omega) (by omega)) ?_|refine GET.at (row:=ZD (Y[q]'(by omega))) (YJ (by omega) (by omega)) ?_|refine GET.at (row:=ZD (out[out.length-1]'(by omega))) (YJ (by omega) (by rw[qb (by omega)];omega)) ?_|refine AU ?_|refine IW ?_ ?_<;>intro h<;>try omega)<;>conv=>whnf
      all_goals first
       |(exfalso;omega)
       |(exfalso;rcases hN with h1|⟨h1,h2⟩;omega;exact h2 (Tm.ext' (by simp only[ZD,yJ,SV.int.injEq,SV.str.injEq,xV,xo];exact h)))
       |(refine⟨(out++ [X[p]],p+1,q),⟨by dsimp only;omega,by dsimp only;omega,by simp only[zg,List.length_cons,List.length_nil];omega,hr⟩,by dsimp only;omega,?_⟩;dsimp only;(conv=>whnf);(refine w5.wV h0 [1,2,6] rfl rfl rfl (by first|rfl|(simp only[Zj,Zi,Z2 _ (Zc _),zD,zG]<;>rfl)) ?_ ?_<;>(repeat'(first|(with_reducible rfl)|(exact Zl (Zc _) (Zb _ (Zc _)))|(exact Zl (Zc _) (by(simp[zi,Yy,ZD])))|(exact Ya rfl (by first|(simp;done)|omega|(simp;omega)))|(exact ze (SV.int _) (by first|omega|(simp(disch:=omega) only[qL,Z5,Zn]<;>omega)|(simp;done)|(simp<;>omega)))|((conv=>whnf);refine⟨?_,?_⟩)|exact trivial|(simp only[wR,qo];done)|rfl)));done)
       |(refine⟨(out++ [X[p]],p+1,q),⟨by dsimp only;omega,by dsimp only;omega,by simp only[zg,List.length_cons,List.length_nil];omega,hr⟩,by dsimp only;omega,?_⟩;dsimp only;(conv=>whnf);(refine w5.wV h0 [1,2,5] rfl rfl rfl (by first|rfl|(simp only[Zj,Zi,Z2 _ (Zc _),zD,zG]<;>rfl)) ?_ ?_<;>(repeat'(first|(with_reducible rfl)|(exact Zl (Zc _) (Zb _ (Zc _)))|(exact Zl (Zc _) (by(simp[zi,Yy,ZD])))|(exact Ya rfl (by first|(simp;done)|omega|(simp;omega)))|(exact ze (SV.int _) (by first|omega|(simp(disch:=omega) only[qL,Z5,Zn]<;>omega)|(simp;done)|(simp<;>omega)))|((conv=>whnf);refine⟨?_,?_⟩)|exact trivial|(simp only[wR,qo];done)|rfl)));done)
       |(refine⟨(out++ [X[p]],p+1,q),⟨by dsimp only;omega,by dsimp only;omega,by simp only[zg,List.length_cons,List.length_nil];omega,hr⟩,by dsimp only;omega,?_⟩;dsimp only;(conv=>whnf);(refine w5.wV h0 [1,2,7] rfl rfl rfl (by first|rfl|(simp only[Zj,Zi,Z2 _ (Zc _),zD,zG]<;>rfl)) ?_ ?_<;>(repeat'(first|(with_reducible rfl)|(exact Zl (Zc _) (Zb _ (Zc _)))|(exact Zl (Zc _) (by(simp[zi,Yy,ZD])))|(exact Ya rfl (by first|(simp;done)|omega|(simp;omega)))|(exact ze (SV.int _) (by first|omega|(simp(disch:=omega) only[qL,Z5,Zn]<;>omega)|(simp;done)|(simp<;>omega)))|((conv=>whnf);refine⟨?_,?_⟩)|exact trivial|(simp only[wR,qo];done)|rfl)));done)
       |trace_state
     .have hr:=hr.trans (ze (fun z=>Yv YI z (X.drop (p+1)) (Y.drop q)) (Dd hN));conv=>whnf
      repeat'(first|refine Z3 7 XT ?_|refine Z3 12 XU ?_|refine qJ.mk (fun _ _=>?_)|refine CALL.value (Xe _ _) rfl rfl ?_|refine wm.mk (Zm 56 rfl rfl rfl (by simp) (by omega)) ?_|refine GET.at (row:=ZD (X[p]'(by omega))) (YJ (by omega) (by omega)) ?_|refine GET.at (row:=ZD (Y[q]'(by omega))) (YJ (by omega) (by omega)) ?_|refine GET.at (row:=ZD (out[out.length-1]'(by omega))) (YJ (by omega) (by rw[qb (by omega)];omega)) ?_|refine AU ?_|refine IW ?_ ?_<;>intro h<;>try omega)<;>conv=>whnf
      all_goals first
       |(exfalso;omega)
       |(exfalso;have h2:=hN.2;rw[h2]at h;simp at h;done)
       |(exfalso;have h2:=hN.1;omega)
       |(refine⟨(out,p+1,q),⟨by dsimp only;omega,by dsimp only;omega,by dsimp only;omega,hr⟩,by dsimp only;omega,?_⟩;dsimp only;(conv=>whnf);exact w5.cA h0;done)
       |trace_state
    .rw[Iy _ (.inr ⟨_,_,rfl,hc⟩),<-ha]at hr
     have QT:De out Y[q]\/∃h0:0<out.length,out[out.length-1]'(by omega)=Y[q]:=by
      by_cases h0:out.length=0
      exact .inl (.inl h0)
      .by_cases he:out[out.length-1]'(by omega)=Y[q]
       exact .inr ⟨by omega,he⟩;exact .inl (.inr ⟨by omega,he⟩)
     rcases QT with hN|hN
     .have hr:=hr.trans (ze (fun z=>Yv YI z (X.drop p) (Y.drop (q+1))) (Dc hN));conv=>whnf
      repeat'(first|refine Z3 7 XT ?_|refine Z3 12 XU ?_|refine qJ.mk (fun _ _=>?_)|refine CALL.value (Xe _ _) rfl rfl ?_|refine wm.mk (Zm 56 rfl rfl rfl (by simp) (by omega)) ?_|refine GET.at (row:=ZD (X[p]'(by omega))) (YJ (by omega) (by omega)) ?_|refine GET.at (row:=ZD (Y[q]'(by omega))) (YJ (by omega) (by omega)) ?_|refine GET.at (row:=ZD (out[out.length-1]'(by omega))) (YJ (by omega) (by rw[qb (by omega)];omega)) ?_|refine AU ?_|refine IW ?_ ?_<;>intro h<;>try omega)<;>conv=>whnf
      all_goals first
       |(exfalso;omega)
       |(exfalso;rcases hN with h1|⟨h1,h2⟩;omega;exact h2 (Tm.ext' (by simp only[ZD,yJ,SV.int.injEq,SV.str.injEq,xV,xo];exact h)))
       |(refine⟨(out++ [Y[q]],p,q+1),⟨by dsimp only;omega,by dsimp only;omega,by simp only[zg,List.length_cons,List.length_nil];omega,hr⟩,by dsimp only;omega,?_⟩;dsimp only;(conv=>whnf);(refine w5.wV h0 [1,2,6] rfl rfl rfl (by first|rfl|(simp only[Zj,Zi,Z2 _ (Zc _),zD,zG]<;>rfl)) ?_ ?_<;>(repeat'(first|(with_reducible rfl)|(exact Zl (Zc _) (Zb _ (Zc _)))|(exact Zl (Zc _) (by(simp[zi,Yy,ZD])))|(exact Ya rfl (by first|(simp;done)|omega|(simp;omega)))|(exact ze (SV.int _) (by first|omega|(simp(disch:=omega) only[qL,Z5,Zn]<;>omega)|(simp;done)|(simp<;>omega)))|((conv=>whnf);refine⟨?_,?_⟩)|exact trivial|(simp only[wR,qo];done)|rfl)));done)
       |(refine⟨(out++ [Y[q]],p,q+1),⟨by dsimp only;omega,by dsimp only;omega,by simp only[zg,List.length_cons,List.length_nil];omega,hr⟩,by dsimp only;omega,?_⟩;dsimp only;(conv=>whnf);(refine w5.wV h0 [1,2,5] rfl rfl rfl (by first|rfl|(simp only[Zj,Zi,Z2 _ (Zc _),zD,zG]<;>rfl)) ?_ ?_<;>(repeat'(first|(with_reducible rfl)|(exact Zl (Zc _) (Zb _ (Zc _)))|(exact Zl (Zc _) (by(simp[zi,Yy,ZD])))|(exact Ya rfl (by first|(simp;done)|omega|(simp;omega)))|(exact ze (SV.int _) (by first|omega|(simp(disch:=omega) only[qL,Z5,Zn]<;>omega)|(simp;done)|(simp<;>omega)))|((conv=>whnf);refine⟨?_,?_⟩)|exact trivial|(simp only[wR,qo];done)|rfl)));done)
       |(refine⟨(out++ [Y[q]],p,q+1),⟨by dsimp only;omega,by dsimp only;omega,by simp only[zg,List.length_cons,List.length_nil];omega,hr⟩,by dsimp only;omega,?_⟩;dsimp only;(conv=>whnf);(refine w5.wV h0 [1,2,7] rfl rfl rfl (by first|rfl|(simp only[Zj,Zi,Z2 _ (Zc _),zD,zG]<;>rfl)) ?_ ?_<;>(repeat'(first|(with_reducible rfl)|(exact Zl (Zc _) (Zb _ (Zc _)))|(exact Zl (Zc _) (by(simp[zi,Yy,ZD])))|(exact Ya rfl (by first|(simp;done)|omega|(simp;omega)))|(exact ze (SV.int _) (by first|omega|(simp(disch:=omega) only[qL,Z5,Zn]<;>omega)|(simp;done)|(simp<;>omega)))|((conv=>whnf);refine⟨?_,?_⟩)|exact trivial|(simp only[wR,qo];done)|rfl)));done)
       |trace_state
     .have hr:=hr.trans (ze (fun z=>Yv YI z (X.drop p) (Y.drop (q+1))) (Dd hN));conv=>whnf
      repeat'(first|refine Z3 7 XT ?_|refine Z3 12 XU ?_|refine qJ.mk (fun _ _=>?_)|refine CALL.value (Xe _ _) rfl rfl ?_|refine wm.mk (Zm 56 rfl rfl rfl (by simp) (by omega)) ?_|refine GET.at (row:=ZD (X[p]'(by omega))) (YJ (by omega) (by omega)) ?_|refine GET.at (row:=ZD (Y[q]'(by omega))) (YJ (by omega) (by omega)) ?_|refine GET.at (row:=ZD (out[out.length-1]'(by omega))) (YJ (by omega) (by rw[qb (by omega)];omega)) ?_|refine AU ?_|refine IW ?_ ?_<;>intro h<;>try omega)<;>conv=>whnf
      all_goals first
       |(exfalso;omega)
       |(exfalso;have h2:=hN.2;rw[h2]at h;simp at h;done)
       |(exfalso;have h2:=hN.1;omega)
       |(refine⟨(out,p,q+1),⟨by dsimp only;omega,by dsimp only;omega,by dsimp only;omega,hr⟩,by dsimp only;omega,?_⟩;dsimp only;(conv=>whnf);exact w5.cA h0;done)
       |trace_state
   .have ha:X.drop p=X[p]::X.drop (p+1):=zq oP;have hb:Y.drop q=[]:=zN (by omega);rw[ha,hb,Iw _ (.inl rfl),<-hb]at hr
    have QT:De out X[p]\/∃h0:0<out.length,out[out.length-1]'(by omega)=X[p]:=by
     by_cases h0:out.length=0
     exact .inl (.inl h0)
     .by_cases he:out[out.length-1]'(by omega)=X[p]
      exact .inr ⟨by omega,he⟩;exact .inl (.inr ⟨by omega,he⟩)
    rcases QT with hN|hN
    .have hr:=hr.trans (ze (fun z=>Yv YI z (X.drop (p+1)) (Y.drop q)) (Dc hN));conv=>whnf
     repeat'(first|refine Z3 7 XT ?_|refine Z3 12 XU ?_|refine wm.mk (Zm 56 rfl rfl rfl (by simp) (by omega)) ?_|refine GET.at (row:=ZD (X[p]'(by omega))) (YJ (by omega) (by omega)) ?_|refine GET.at (row:=ZD (out[out.length-1]'(by omega))) (YJ (by omega) (by rw[qb (by omega)];omega)) ?_|refine AU ?_|refine IW ?_ ?_<;>intro h<;>try omega)<;>conv=>whnf
     all_goals first
      |(exfalso;omega)
      |(exfalso;rcases hN with h1|⟨h1,h2⟩;omega;exact h2 (Tm.ext' (by simp only[ZD,yJ,SV.int.injEq,SV.str.injEq,xV,xo];exact h)))
      |(refine⟨(out++ [X[p]],p+1,q),⟨by dsimp only;omega,by dsimp only;omega,by simp only[zg,List.length_cons,List.length_nil];omega,hr⟩,by dsimp only;omega,?_⟩;dsimp only;(conv=>whnf);(refine w5.wV h0 [1,2,6] rfl rfl rfl (by first|rfl|(simp only[Zj,Zi,Z2 _ (Zc _),zD,zG]<;>rfl)) ?_ ?_<;>(repeat'(first|(with_reducible rfl)|(exact Zl (Zc _) (Zb _ (Zc _)))|(exact Zl (Zc _) (by(simp[zi,Yy,ZD])))|(exact Ya rfl (by first|(simp;done)|omega|(simp;omega)))|(exact ze (SV.int _) (by first|omega|(simp(disch:=omega) only[qL,Z5,Zn]<;>omega)|(simp;done)|(simp<;>omega)))|((conv=>whnf);refine⟨?_,?_⟩)|exact trivial|(simp only[wR,qo];done)|rfl)));done)
      |(refine⟨(out++ [X[p]],p+1,q),⟨by dsimp only;omega,by dsimp only;omega,by simp only[zg,List.length_cons,List.length_nil];omega,hr⟩,by dsimp only;omega,?_⟩;dsimp only;(conv=>whnf);(refine w5.wV h0 [1,2,5] rfl rfl rfl (by first|rfl|(simp only[Zj,Zi,Z2 _ (Zc _),zD,zG]<;>rfl)) ?_ ?_<;>(repeat'(first|(with_reducible rfl)|(exact Zl (Zc _) (Zb _ (Zc _)))|(exact Zl (Zc _) (by(simp[zi,Yy,ZD])))|(exact Ya rfl (by first|(simp;done)|omega|(simp;omega)))|(exact ze (SV.int _) (by first|omega|(simp(disch:=omega) only[qL,Z5,Zn]<;>omega)|(simp;done)|(simp<;>omega)))|((conv=>whnf);refine⟨?_,?_⟩)|exact trivial|(simp only[wR,qo];done)|rfl)));done)
      |(refine⟨(out++ [X[p]],p+1,q),⟨by dsimp only;omega,by dsimp only;omega,by simp only[zg,List.length_cons,List.length_nil];omega,hr⟩,by dsimp only;omega,?_⟩;dsimp only;(conv=>whnf);(refine w5.wV h0 [1,2,7] rfl rfl rfl (by first|rfl|(simp only[Zj,Zi,Z2 _ (Zc _),zD,zG]<;>rfl)) ?_ ?_<;>(repeat'(first|(with_reducible rfl)|(exact Zl (Zc _) (Zb _ (Zc _)))|(exact Zl (Zc _) (by(simp[zi,Yy,ZD])))|(exact Ya rfl (by first|(simp;done)|omega|(simp;omega)))|(exact ze (SV.int _) (by first|omega|(simp(disch:=omega) only[qL,Z5,Zn]<;>omega)|(simp;done)|(simp<;>omega)))|((conv=>whnf);refine⟨?_,?_⟩)|exact trivial|(simp only[wR,qo];done)|rfl)));done)
      |trace_state
    .have hr:=hr.trans (ze (fun z=>Yv YI z (X.drop (p+1)) (Y.drop q)) (Dd hN));conv=>whnf
     repeat'(first|refine Z3 7 XT ?_|refine Z3 12 XU ?_|refine wm.mk (Zm 56 rfl rfl rfl (by simp) (by omega)) ?_|refine GET.at (row:=ZD (X[p]'(by omega))) (YJ (by omega) (by omega)) ?_|refine GET.at (row:=ZD (out[out.length-1]'(by omega))) (YJ (by omega) (by rw[qb (by omega)];omega)) ?_|refine AU ?_|refine IW ?_ ?_<;>intro h<;>try omega)<;>conv=>whnf
     all_goals first
      |(exfalso;omega)
      |(exfalso;have h2:=hN.2;rw[h2]at h;simp at h;done)
      |(exfalso;have h2:=hN.1;omega)
      |(refine⟨(out,p+1,q),⟨by dsimp only;omega,by dsimp only;omega,by dsimp only;omega,hr⟩,by dsimp only;omega,?_⟩;dsimp only;(conv=>whnf);exact w5.cA h0;done)
      |trace_state
   .have hb:Y.drop q=Y[q]::Y.drop (q+1):=zq fL;have ha:X.drop p=[]:=zN (by omega);rw[ha,hb,Iy _ (.inl rfl),<-ha]at hr
    have QT:De out Y[q]\/∃h0:0<out.length,out[out.length-1]'(by omega)=Y[q]:=by
     by_cases h0:out.length=0
     exact .inl (.inl h0)
     .by_cases he:out[out.length-1]'(by omega)=Y[q]
      exact .inr ⟨by omega,he⟩;exact .inl (.inr ⟨by omega,he⟩)
    rcases QT with hN|hN
    .have hr:=hr.trans (ze (fun z=>Yv YI z (X.drop p) (Y.drop (q+1))) (Dc hN));conv=>whnf
     repeat'(first|refine Z3 7 XT ?_|refine Z3 12 XU ?_|refine wm.mk (Zm 56 rfl rfl rfl (by simp) (by omega)) ?_|refine GET.at (row:=ZD (Y[q]'(by omega))) (YJ (by omega) (by omega)) ?_|refine GET.at (row:=ZD (out[out.length-1]'(by omega))) (YJ (by omega) (by rw[qb (by omega)];omega)) ?_|refine AU ?_|refine IW ?_ ?_<;>intro h<;>try omega)<;>conv=>whnf
     all_goals first
      |(exfalso;omega)
      |(exfalso;rcases hN with h1|⟨h1,h2⟩;omega;exact h2 (Tm.ext' (by simp only[ZD,yJ,SV.int.injEq,SV.str.injEq,xV,xo];exact h)))
      |(refine⟨(out++ [Y[q]],p,q+1),⟨by dsimp only;omega,by dsimp only;omega,by simp only[zg,List.length_cons,List.length_nil];omega,hr⟩,by dsimp only;omega,?_⟩;dsimp only;(conv=>whnf);(refine w5.wV h0 [1,2,6] rfl rfl rfl (by first|rfl|(simp only[Zj,Zi,Z2 _ (Zc _),zD,zG]<;>rfl)) ?_ ?_<;>(repeat'(first|(with_reducible rfl)|(exact Zl (Zc _) (Zb _ (Zc _)))|(exact Zl (Zc _) (by(simp[zi,Yy,ZD])))|(exact Ya rfl (by first|(simp;done)|omega|(simp;omega)))|(exact ze (SV.int _) (by first|omega|(simp(disch:=omega) only[qL,Z5,Zn]<;>omega)|(simp;done)|(simp<;>omega)))|((conv=>whnf);refine⟨?_,?_⟩)|exact trivial|(simp only[wR,qo];done)|rfl)));done)
      |(refine⟨(out++ [Y[q]],p,q+1),⟨by dsimp only;omega,by dsimp only;omega,by simp only[zg,List.length_cons,List.length_nil];omega,hr⟩,by dsimp only;omega,?_⟩;dsimp only;(conv=>whnf);(refine w5.wV h0 [1,2,5] rfl rfl rfl (by first|rfl|(simp only[Zj,Zi,Z2 _ (Zc _),zD,zG]<;>rfl)) ?_ ?_<;>(repeat'(first|(with_reducible rfl)|(exact Zl (Zc _) (Zb _ (Zc _)))|(exact Zl (Zc _) (by(simp[zi,Yy,ZD])))|(exact Ya rfl (by first|(simp;done)|omega|(simp;omega)))|(exact ze (SV.int _) (by first|omega|(simp(disch:=omega) only[qL,Z5,Zn]<;>omega)|(simp;done)|(simp<;>omega)))|((conv=>whnf);refine⟨?_,?_⟩)|exact trivial|(simp only[wR,qo];done)|rfl)));done)
      |(refine⟨(out++ [Y[q]],p,q+1),⟨by dsimp only;omega,by dsimp only;omega,by simp only[zg,List.length_cons,List.length_nil];omega,hr⟩,by dsimp only;omega,?_⟩;dsimp only;(conv=>whnf);(refine w5.wV h0 [1,2,7] rfl rfl rfl (by first|rfl|(simp only[Zj,Zi,Z2 _ (Zc _),zD,zG]<;>rfl)) ?_ ?_<;>(repeat'(first|(with_reducible rfl)|(exact Zl (Zc _) (Zb _ (Zc _)))|(exact Zl (Zc _) (by(simp[zi,Yy,ZD])))|(exact Ya rfl (by first|(simp;done)|omega|(simp;omega)))|(exact ze (SV.int _) (by first|omega|(simp(disch:=omega) only[qL,Z5,Zn]<;>omega)|(simp;done)|(simp<;>omega)))|((conv=>whnf);refine⟨?_,?_⟩)|exact trivial|(simp only[wR,qo];done)|rfl)));done)
      |trace_state
    .have hr:=hr.trans (ze (fun z=>Yv YI z (X.drop p) (Y.drop (q+1))) (Dd hN));conv=>whnf
     repeat'(first|refine Z3 7 XT ?_|refine Z3 12 XU ?_|refine wm.mk (Zm 56 rfl rfl rfl (by simp) (by omega)) ?_|refine GET.at (row:=ZD (Y[q]'(by omega))) (YJ (by omega) (by omega)) ?_|refine GET.at (row:=ZD (out[out.length-1]'(by omega))) (YJ (by omega) (by rw[qb (by omega)];omega)) ?_|refine AU ?_|refine IW ?_ ?_<;>intro h<;>try omega)<;>conv=>whnf
     all_goals first
      |(exfalso;omega)
      |(exfalso;have h2:=hN.2;rw[h2]at h;simp at h;done)
      |(exfalso;have h2:=hN.1;omega)
      |(refine⟨(out,p,q+1),⟨by dsimp only;omega,by dsimp only;omega,by dsimp only;omega,hr⟩,by dsimp only;omega,?_⟩;dsimp only;(conv=>whnf);exact w5.cA h0;done)
      |trace_state
   .have ha:X.drop p=[]:=zN (by omega);have hb:Y.drop q=[]:=zN (by omega);rw[ha,hb,ZdR]at hr;conv=>whnf
    repeat'(first|refine IW ?_ ?_<;>intro h<;>try omega)<;>conv=>whnf
    rw[hr];exact wh.rows h0 3 4 out.length rfl rfl rfl (Zc _) ⟨rfl,rfl,rfl⟩
open _root_.Go.Proofs.Tryz
theorem ZdS(out:List Tm)(h:out.length*56<=140737488351232):uX prog wD 80 1 [.sl (.loc 0) 0 4 out.length none] [] [(0, .rows 4 (out.map ZD))] (Qz ZD 4 1 (qI YI out)):=by
 have hT:=ON out h out.length out.length 0 (zo _) (by omega);rwa [yD,zX,Eg oK _ out (zo _)]at hT
open _root_.Go.Proofs.Tryz
def Zb8:wP:=(Zr [(0,1),(1,1),(2,1),(3,1),(5,1),(6,1),(7,1),(8,1),(10,1),(11,1),(12,1),(13,1),(15,1),(16,1),(17,1),(18,1),(4,2),(9,2),(14,2),(19,2),(20,1),(21,3),(22,0)])
theorem Df(l:List (List UInt8))(a:List (List UInt8)):(l++a).map Yq=l.map Yq++a.map Yq:=yj
theorem Wy(l z:List Qd)(lim:Option Nat)(hl:Xs l)(hz:(l++z).length<=1152921504606846976):uX prog wD 40 1 [.sl (.loc 0) 0 16 l.length lim] [] [(0, .rows 16 ((l++z).map Z4))]
 (Qz Zh 1 1 (qI cmpL (ZE l))):=by
 unfold Xs at hl;have hlen:∀i,((l.take i).flatMap Zx).length<=(l.take i).length*4:=fun i=>EP _ UM _;unfold ZE;refine uX.enter Z0 call40 func40 rfl 70 rfl rfl [.tmp 2] rfl ?_;intro w0 F η0 h0;conv=>whnf
 refine wj.nil 3 4 rfl ?_;refine wj.go Z0 [0] (X:=Nat) (fun i=>i<=l.length) (fun i=>[(4, .int .i64 (i:Int)),(3, .sl (.loc 1) 0 4 (((l.take i).flatMap Zx).map Yq).length none)]) (fun i=>[(1, .rows 4 ((((l.take i).flatMap Zx).map Yq).map ZD))]) 2 (fun i=>l.length-i) 0 (by omega) ?_;conv=>whnf
 refine⟨by exact w5.cA h0,?_⟩;intro i hi;have sw:=hlen i;rw[zu,yQ hi]at sw;conv=>whnf
 by_cases hil:i<l.length
 .have hs:=Tf Zx hil;generalize(l.take i).flatMap Zx=out at*;repeat'(first|refine Z3 5 Zb8 ?_|refine qJ.mk (fun _ _=>?_)|refine GET.at (row:=Z4 (l[i]'(by omega))) (AK (by omega) (by omega)) ?_|refine AU ?_|refine IW ?_ ?_<;>intro h<;>try omega)<;>conv=>whnf
  refine wj.go Z0 [0,4,5] (X:=Nat×List Tm) (fun x=>x.1<=4/\x.2=(out++ot l[i] x.1).map Yq) (fun x=>[(6, .int .i64 (x.1:Int)),(3, .sl (.loc 1) 0 4 x.2.length none)]) (fun x=>[(1, .rows 4 (x.2.map ZD)),(2, .rows 4 ((Kv l[i]).map ZD))]) 3 (fun x=>4-x.1) (0,out.map Yq) ⟨by simp,by simp[ot]⟩ ?_;conv=>whnf
  refine⟨by exact w5.cA h0,?_⟩;rintro⟨j,o2⟩ ⟨hj,gp⟩;dsimp only at hj gp⊢;have hfl:=Ti l[i] j;have AL:o2.length<=i*4+j:=by rw[gp,zA,zg];omega
  by_cases QA:j<4
  .obtain rfl|rfl|rfl|rfl:j=0\/j=1\/j=2\/j=3:=by omega
   .have hst:=(Wx l[i]).1;conv=>whnf
    repeat'(first|refine GET.at (row:=ZD l[i].s) rfl ?_|refine wm.mk (Zm 56 rfl rfl rfl (by simp) (by omega)) ?_|refine AU ?_|refine IW ?_ ?_<;>intro h<;>try omega)<;>conv=>whnf
    .refine⟨(1,o2++ [Yq l[i].s.t]),⟨by simp,by dsimp only;rw[hst,VQ h,gp,<-zM,Df _ [l[i].s.t]];rfl⟩,by simp,?_⟩;dsimp only;conv=>whnf
     (refine w5.wV h0 [4,2] rfl rfl rfl (by first|rfl|(simp only[Zj,Zi,Z2 _ (Zc _),zD,zG]<;>rfl)) ?_ ?_<;>(repeat'(first|(with_reducible rfl)|(exact Zl (Zc _) (Zb _ (Zc _)))|(exact Zl (Zc _) (by(simp[zi,Yy,ZD,Yq])))|(exact Ya rfl (by first|(simp;done)|omega|(simp;omega)))|(exact ze (SV.int _) (by first|omega|(simp(disch:=omega) only[qL,Z5,Zn]<;>omega)|(simp;done)|(simp<;>omega)))|((conv=>whnf);refine⟨?_,?_⟩)|exact trivial|(simp only[wR,qo];done)|rfl)))
    .refine⟨(1,o2),⟨by simp,by dsimp only;rw[hst,VR h,gp,zO]⟩,by simp,?_⟩;dsimp only;conv=>whnf
     exact w5.cA h0
   .have hst:=(Wx l[i]).2.1;conv=>whnf
    repeat'(first|refine GET.at (row:=ZD l[i].p) rfl ?_|refine wm.mk (Zm 56 rfl rfl rfl (by simp) (by omega)) ?_|refine AU ?_|refine IW ?_ ?_<;>intro h<;>try omega)<;>conv=>whnf
    .refine⟨(2,o2++ [Yq l[i].p.t]),⟨by simp,by dsimp only;rw[hst,VQ h,gp,<-zM,Df _ [l[i].p.t]];rfl⟩,by simp,?_⟩;dsimp only;conv=>whnf
     (refine w5.wV h0 [4,2] rfl rfl rfl (by first|rfl|(simp only[Zj,Zi,Z2 _ (Zc _),zD,zG]<;>rfl)) ?_ ?_<;>(repeat'(first|(with_reducible rfl)|(exact Zl (Zc _) (Zb _ (Zc _)))|(exact Zl (Zc _) (by(simp[zi,Yy,ZD,Yq])))|(exact Ya rfl (by first|(simp;done)|omega|(simp;omega)))|(exact ze (SV.int _) (by first|omega|(simp(disch:=omega) only[qL,Z5,Zn]<;>omega)|(simp;done)|(simp<;>omega)))|((conv=>whnf);refine⟨?_,?_⟩)|exact trivial|(simp only[wR,qo];done)|rfl)))
    .refine⟨(2,o2),⟨by simp,by dsimp only;rw[hst,VR h,gp,zO]⟩,by simp,?_⟩;dsimp only;conv=>whnf
     exact w5.cA h0
   .have hst:=(Wx l[i]).2.2.1;conv=>whnf
    repeat'(first|refine GET.at (row:=ZD l[i].o) rfl ?_|refine wm.mk (Zm 56 rfl rfl rfl (by simp) (by omega)) ?_|refine AU ?_|refine IW ?_ ?_<;>intro h<;>try omega)<;>conv=>whnf
    .refine⟨(3,o2++ [Yq l[i].o.t]),⟨by simp,by dsimp only;rw[hst,VQ h,gp,<-zM,Df _ [l[i].o.t]];rfl⟩,by simp,?_⟩;dsimp only;conv=>whnf
     (refine w5.wV h0 [4,2] rfl rfl rfl (by first|rfl|(simp only[Zj,Zi,Z2 _ (Zc _),zD,zG]<;>rfl)) ?_ ?_<;>(repeat'(first|(with_reducible rfl)|(exact Zl (Zc _) (Zb _ (Zc _)))|(exact Zl (Zc _) (by(simp[zi,Yy,ZD,Yq])))|(exact Ya rfl (by first|(simp;done)|omega|(simp;omega)))|(exact ze (SV.int _) (by first|omega|(simp(disch:=omega) only[qL,Z5,Zn]<;>omega)|(simp;done)|(simp<;>omega)))|((conv=>whnf);refine⟨?_,?_⟩)|exact trivial|(simp only[wR,qo];done)|rfl)))
    .refine⟨(3,o2),⟨by simp,by dsimp only;rw[hst,VR h,gp,zO]⟩,by simp,?_⟩;dsimp only;conv=>whnf
     exact w5.cA h0
   .have hst:=(Wx l[i]).2.2.2;conv=>whnf
    repeat'(first|refine GET.at (row:=ZD l[i].g) rfl ?_|refine wm.mk (Zm 56 rfl rfl rfl (by simp) (by omega)) ?_|refine AU ?_|refine IW ?_ ?_<;>intro h<;>try omega)<;>conv=>whnf
    .refine⟨(4,o2++ [Yq l[i].g.t]),⟨by simp,by dsimp only;rw[hst,VQ h,gp,<-zM,Df _ [l[i].g.t]];rfl⟩,by simp,?_⟩;dsimp only;conv=>whnf
     (refine w5.wV h0 [4,2] rfl rfl rfl (by first|rfl|(simp only[Zj,Zi,Z2 _ (Zc _),zD,zG]<;>rfl)) ?_ ?_<;>(repeat'(first|(with_reducible rfl)|(exact Zl (Zc _) (Zb _ (Zc _)))|(exact Zl (Zc _) (by(simp[zi,Yy,ZD,Yq])))|(exact Ya rfl (by first|(simp;done)|omega|(simp;omega)))|(exact ze (SV.int _) (by first|omega|(simp(disch:=omega) only[qL,Z5,Zn]<;>omega)|(simp;done)|(simp<;>omega)))|((conv=>whnf);refine⟨?_,?_⟩)|exact trivial|(simp only[wR,qo];done)|rfl)))
    .refine⟨(4,o2),⟨by simp,by dsimp only;rw[hst,VR h,gp,zO]⟩,by simp,?_⟩;dsimp only;conv=>whnf
     exact w5.cA h0
  .obtain rfl:j=4:=by omega
   rw[Tg]at gp;conv=>whnf
   repeat'(first|refine IW ?_ ?_<;>intro h<;>try omega)<;>conv=>whnf
   refine⟨i+1,by omega,by omega,?_⟩;rw[hs,<-gp];conv=>whnf
   exact w5.cA h0
 .have hie:i=l.length:=by omega
  subst hie;rw[zX]at sw⊢;generalize l.flatMap Zx=out at*;have Cp:=Zdd out;have hls:=Kk (c:=YI) (out.map Yq);have hr:=ZdS (out.map Yq) (by rw[zA];omega);rw[<-Cp];rw[zA]at hls;repeat'(first|refine IW ?_ ?_<;>intro h<;>try omega)<;>conv=>whnf
  refine CALL.aA [1] (hr) ?_;generalize qI YI (out.map Yq)=all at*;rintro r O nx ⟨rfl,rfl,rfl⟩;conv=>whnf
  refine wj.nil 7 1 rfl ?_;refine wj.go Z0 [3] (X:=Nat) (fun i=>i<=all.length) (fun i=>[(8, .int .i64 (i:Int)),(7, .sl (.loc 3) 0 1 ((all.take i).map Tm.t).length none)]) (fun i=>[(2, .rows 4 (all.map ZD)),(3, .rows 1 (((all.take i).map Tm.t).map Zh))]) 4 (fun i=>all.length-i) 0 (by omega) ?_;conv=>whnf
  refine⟨by exact w5.cA h0,?_⟩;intro i hi;conv=>whnf
  by_cases hil:i<all.length
  .have hs:(all.take (i+1)).map Tm.t=(all.take i).map Tm.t++ [all[i].t]:=by rw[zH hil,yj];rfl
   have hoi:((all.take i).map Tm.t).length=i:=by simp;omega
   generalize(all.take i).map Tm.t=o3 at*;repeat'(first|refine GET.at (row:=ZD (all[i]'(by omega))) (YJ (by omega) (by omega)) ?_|refine wm.mk (Zm 16 rfl rfl rfl (by simp) (by omega)) ?_|refine AU ?_|refine IW ?_ ?_<;>intro h<;>try omega)<;>conv=>whnf
   refine⟨i+1,by omega,by omega,?_⟩;rw[hs];conv=>whnf
   (refine w5.wV h0 [1,2,5] rfl rfl rfl (by(repeat'(first|(refine Ym rfl ?_ ?_)|exact Yr (Zc _)|exact RX (Zc _)|exact Yr (Zt _)|exact RX (Zt _)|rfl))) ?_ ?_<;>(repeat'(first|(with_reducible rfl)|exact trivial|(exact Ya rfl (by first|omega|(simp(disch:=omega) only[qL,Z5,Zn]<;>omega)|(simp;done)|(simp<;>omega)))|(exact ze (SV.int _) (by first|omega|(simp(disch:=omega) only[qL,Z5,Zn]<;>omega)|(simp;done)|(simp<;>omega)))|(exact GQ (by first|omega|(simp(disch:=omega) only[qL,Z5,Zn]<;>omega)|(simp;done)|(simp<;>omega)))|(exact GR (by first|omega|(simp(disch:=omega) only[qL,Z5,Zn]<;>omega)|(simp;done)|(simp<;>omega)))|(exact(Zu _ (h:= .rows _ _) (Zc _)).symm)|(exact(Zu _ (h:= .rows _ _) (Zc _)).trans (Zu _ (h:= .rows _ _) (Zc _)).symm)|(exact Zl (Zc _) (by(simp[zi,Yy,Zh])))|(exact(Zu _ (h:= .rows _ _) (Zt _)).symm)|(exact(Zu _ (h:= .rows _ _) (Zt _)).trans (Zu _ (h:= .rows _ _) (Zt _)).symm)|(exact Zl (Zt _) (by(simp[zi,Yy,Zh])))|((conv=>whnf);refine⟨?_,?_⟩)|(simp only[wR,qo];done)|rfl)))
  .have hie:i=all.length:=by omega
   subst hie;rw[zX];repeat'(first|refine IW ?_ ?_<;>intro h<;>try omega)<;>conv=>whnf
   refine wh.aA h0 [3] (.sl (.loc 1) 0 1 (all.map Tm.t).length none) [(1, .rows 1 ((all.map Tm.t).map Zh))] ?_;exact⟨rfl,rfl,rfl⟩
