/- Part 11: Terms7, RTerms7. Conditions: as each part says. -/
import Derived.Test.YtlcbipfmodcedaaGreatDoorFrm10
set_option linter.unusedVariables false
set_option linter.unusedSimpArgs false
set_option maxRecDepth 20000
set_option maxHeartbeats 8000000
namespace Go.Proofs.YtlcbipfmodcedaaGreatDoor
open Go.Sx Go.Our
open _root_.Go.Proofs.Tryz
theorem Ut(q:Qd):(Zw q).length<=4:=by
 have h:∀t,(Y0 t).length<=1:=fun t=>by unfold Y0;split<;>simp
 have:=h q.s;have:=h q.p;have:=h q.o;have:=h q.g;unfold Zw;simp only[zh];omega
def iV(q:Qd):List Tm:=[q.s,q.p,q.o,q.g]
theorem Zih(q:Qd):Zw q=(iV q).flatMap Y0:=by simp[Zw,iV]
def WF(q:Qd)(j:Nat):List (List UInt8):=((iV q).take j).flatMap Y0
theorem MK(q:Qd):WF q 4=Zw q:=by rw[Zih];rfl
theorem W2(q:Qd):WF q 1=WF q 0++Y0 q.s/\WF q 2=WF q 1++Y0 q.p/\WF q 3=WF q 2++Y0 q.o/\WF q 4=WF q 3++Y0 q.g:=by simp[WF,iV]
theorem VB{t:Tm}(h:t.k=2):Y0 t=[t.t]:=by unfold Y0;rw[zf h]
theorem VC{t:Tm}(h:¬t.k=2):Y0 t=[]:=by unfold Y0;rw[z7 h]
theorem ML(q:Qd)(j:Nat):(WF q j).length<=j:=by
 have h:∀t,(Y0 t).length<=1:=fun t=>by unfold Y0;split<;>simp
 unfold WF
 have h2:∀(l:List Tm),(l.flatMap Y0).length<=l.length:=fun l=>by
  induction l with
  |nil=>simp
  |cons t l ih=>have:=h t;simp only[List.flatMap_cons,zh,List.length_cons];omega
 have:=h2 ((iV q).take j);rw[zq]at this;omega
theorem Z9s(l z:List Qd)(lim:Option Nat)(hl:JS l)(hz:(l++z).length<=1152921504606846976):vS prog uf 48 1 [.sl (.loc 0) 0 16 l.length lim] [] [(0, .rows 16 ((l++z).map Z3))]
 (ZjP Ze 1 1 ([]:List UInt8) (Zz l).length (wj cmpL (Zz l))):=by
 unfold JS at hl;have hlen:∀i,((l.take i).flatMap Zw).length<=(l.take i).length*4:=fun i=>FT _ Ut _;unfold Zz;refine vS.enter Z0 call48 func48 rfl 37 rfl rfl [.tmp 2] rfl ?_;intro w0 F η0 h0;conv=>whnf
 refine vZ.nil 3 1 rfl ?_;refine vZ.go Z0 [8,9] (X:=Nat) (fun i=>i<=l.length) (fun i=>[(10, .int .i64 (i:Int)),(3, .sl (.loc 1) 0 1 ((l.take i).flatMap Zw).length none)]) (fun i=>[(1, .rows 1 (((l.take i).flatMap Zw).map Ze))]) 2 (fun i=>l.length-i) 0 (by omega) ?_;conv=>whnf
 refine⟨by exact vU.cA h0,?_⟩;intro i hi;have mR:=hlen i;rw[zq,x7 hi]at mR;conv=>whnf
 by_cases hil:i<l.length
 .have hs:=MJ Zw hil;generalize(l.take i).flatMap Zw=out at*;repeat'(first|refine GET.at (row:=Z3 (l[i]'(by omega))) (Cj (by omega) (by omega)) ?_|refine AU ?_|refine IW ?_ ?_<;>intro h<;>try omega)<;>conv=>whnf
  refine CALL.aA [2] (Zeb (l[i]'(by omega))) ?_;rintro r O nx ⟨rfl,rfl,rfl⟩;conv=>whnf
  refine vZ.go Z0 [8,9,10,14] (X:=Nat×List (List UInt8)) (fun x=>x.1<=4/\x.2=out++WF l[i] x.1) (fun x=>[(15, .int .i64 (x.1:Int)),(3, .sl (.loc 1) 0 1 x.2.length none)]) (fun x=>[(1, .rows 1 (x.2.map Ze)),(2, .box (Z3 l[i]))]) 3 (fun x=>4-x.1) (0,out) ⟨by simp,by simp[WF]⟩ ?_;conv=>whnf
  refine⟨by exact vU.cA h0,?_⟩;rintro⟨j,o2⟩ ⟨hj,kB⟩;dsimp only at hj kB⊢;have hfl:=ML l[i] j;have Cl:o2.length<=i*4+j:=by rw[kB,zh];omega
  by_cases tD:j<4
  .obtain rfl|rfl|rfl|rfl:j=0\/j=1\/j=2\/j=3:=by omega
   .have hst:=(W2 l[i]).1;conv=>whnf
    repeat'(first|refine u6.mk ⟨by decide,by decide,rfl⟩ ?_|refine u6.mk (Zn 16 rfl rfl rfl (by simp) (by omega)) ?_|refine AU ?_|refine IW ?_ ?_<;>intro h<;>try omega)<;>conv=>whnf
    .refine⟨(1,o2++ [l[i].s.t]),⟨by simp,by dsimp only;rw[hst,VB h,kB,zR]⟩,by simp,?_⟩;dsimp only;conv=>whnf
     (refine vU.uw h0 [4,2] rfl rfl rfl (by first|rfl|(simp only[Zl,Zh,Z2 _ (Zq _),zB,zF]<;>rfl)) ?_ ?_<;>(repeat'(first|(with_reducible rfl)|(exact Zk (Zq _) (Zd _ (Zq _)))|(exact Zk (Zq _) (by(simp[zg,YG,Ze])))|(exact YA rfl (by first|(simp;done)|omega|(simp;omega)))|(exact z8 (SV.int _) (by first|omega|(simp(disch:=omega) only[wI,Z9,Zp]<;>omega)|(simp;done)|(simp<;>omega)))|((conv=>whnf);refine⟨?_,?_⟩)|exact trivial|(simp only[ur,uS];done)|rfl)))
    .refine⟨(1,o2),⟨by simp,by dsimp only;rw[hst,VC h,kB,zP]⟩,by simp,?_⟩;dsimp only;conv=>whnf
     exact vU.cA h0
   .have hst:=(W2 l[i]).2.1;conv=>whnf
    repeat'(first|refine u6.mk ⟨by decide,by decide,rfl⟩ ?_|refine u6.mk (Zn 16 rfl rfl rfl (by simp) (by omega)) ?_|refine AU ?_|refine IW ?_ ?_<;>intro h<;>try omega)<;>conv=>whnf
    .refine⟨(2,o2++ [l[i].p.t]),⟨by simp,by dsimp only;rw[hst,VB h,kB,zR]⟩,by simp,?_⟩;dsimp only;conv=>whnf
     (refine vU.uw h0 [4,2] rfl rfl rfl (by first|rfl|(simp only[Zl,Zh,Z2 _ (Zq _),zB,zF]<;>rfl)) ?_ ?_<;>(repeat'(first|(with_reducible rfl)|(exact Zk (Zq _) (Zd _ (Zq _)))|(exact Zk (Zq _) (by(simp[zg,YG,Ze])))|(exact YA rfl (by first|(simp;done)|omega|(simp;omega)))|(exact z8 (SV.int _) (by first|omega|(simp(disch:=omega) only[wI,Z9,Zp]<;>omega)|(simp;done)|(simp<;>omega)))|((conv=>whnf);refine⟨?_,?_⟩)|exact trivial|(simp only[ur,uS];done)|rfl)))
    .refine⟨(2,o2),⟨by simp,by dsimp only;rw[hst,VC h,kB,zP]⟩,by simp,?_⟩;dsimp only;conv=>whnf
     exact vU.cA h0
   .have hst:=(W2 l[i]).2.2.1;conv=>whnf
    repeat'(first|refine u6.mk ⟨by decide,by decide,rfl⟩ ?_|refine u6.mk (Zn 16 rfl rfl rfl (by simp) (by omega)) ?_|refine AU ?_|refine IW ?_ ?_<;>intro h<;>try omega)<;>conv=>whnf
    .refine⟨(3,o2++ [l[i].o.t]),⟨by simp,by dsimp only;rw[hst,VB h,kB,zR]⟩,by simp,?_⟩;dsimp only;conv=>whnf
     (refine vU.uw h0 [4,2] rfl rfl rfl (by first|rfl|(simp only[Zl,Zh,Z2 _ (Zq _),zB,zF]<;>rfl)) ?_ ?_<;>(repeat'(first|(with_reducible rfl)|(exact Zk (Zq _) (Zd _ (Zq _)))|(exact Zk (Zq _) (by(simp[zg,YG,Ze])))|(exact YA rfl (by first|(simp;done)|omega|(simp;omega)))|(exact z8 (SV.int _) (by first|omega|(simp(disch:=omega) only[wI,Z9,Zp]<;>omega)|(simp;done)|(simp<;>omega)))|((conv=>whnf);refine⟨?_,?_⟩)|exact trivial|(simp only[ur,uS];done)|rfl)))
    .refine⟨(3,o2),⟨by simp,by dsimp only;rw[hst,VC h,kB,zP]⟩,by simp,?_⟩;dsimp only;conv=>whnf
     exact vU.cA h0
   .have hst:=(W2 l[i]).2.2.2;conv=>whnf
    repeat'(first|refine u6.mk ⟨by decide,by decide,rfl⟩ ?_|refine u6.mk (Zn 16 rfl rfl rfl (by simp) (by omega)) ?_|refine AU ?_|refine IW ?_ ?_<;>intro h<;>try omega)<;>conv=>whnf
    .refine⟨(4,o2++ [l[i].g.t]),⟨by simp,by dsimp only;rw[hst,VB h,kB,zR]⟩,by simp,?_⟩;dsimp only;conv=>whnf
     (refine vU.uw h0 [4,2] rfl rfl rfl (by first|rfl|(simp only[Zl,Zh,Z2 _ (Zq _),zB,zF]<;>rfl)) ?_ ?_<;>(repeat'(first|(with_reducible rfl)|(exact Zk (Zq _) (Zd _ (Zq _)))|(exact Zk (Zq _) (by(simp[zg,YG,Ze])))|(exact YA rfl (by first|(simp;done)|omega|(simp;omega)))|(exact z8 (SV.int _) (by first|omega|(simp(disch:=omega) only[wI,Z9,Zp]<;>omega)|(simp;done)|(simp<;>omega)))|((conv=>whnf);refine⟨?_,?_⟩)|exact trivial|(simp only[ur,uS];done)|rfl)))
    .refine⟨(4,o2),⟨by simp,by dsimp only;rw[hst,VC h,kB,zP]⟩,by simp,?_⟩;dsimp only;conv=>whnf
     exact vU.cA h0
  .obtain rfl:j=4:=by omega
   rw[MK]at kB;conv=>whnf
   repeat'(first|refine IW ?_ ?_<;>intro h<;>try omega)<;>conv=>whnf
   refine⟨i+1,by omega,by omega,?_⟩;rw[hs,<-kB];conv=>whnf
   exact vU.cA h0
 .have hie:i=l.length:=by omega
  subst hie;rw[y8]at mR⊢;generalize l.flatMap Zw=out at*;have hm:(out.mergeSort (q9 cmpL)).length=out.length:=yt out;have kg:=DM (out.mergeSort (q9 cmpL));have oF:(Z5 (out.mergeSort (q9 cmpL))++List.replicate ((out.mergeSort (q9 cmpL)).length-(Z5 (out.mergeSort (q9 cmpL))).length) ([]:List UInt8)).length*16<=140741783322624:=by rw[zh,yK];omega
  repeat'(first|refine IW ?_ ?_<;>intro h<;>try omega)<;>conv=>whnf
  refine CALL.aA [1] (Zc0 out (by omega)) ?_;rintro r O nx ⟨rfl,rfl,rfl⟩;conv=>whnf
  rw[<-hm];refine CALL.aA [1] (Z6o (out.mergeSort (q9 cmpL)) (by omega)) ?_;rintro r O nx ⟨rfl,rfl,rfl⟩;conv=>whnf
  refine CALL.aA [1] (ZbY (Z5 (out.mergeSort (q9 cmpL))++List.replicate ((out.mergeSort (q9 cmpL)).length-(Z5 (out.mergeSort (q9 cmpL))).length) ([]:List UInt8)) (Z5 (out.mergeSort (q9 cmpL))).length (by simp) oF) ?_;rintro r O nx ⟨rfl,rfl,rfl⟩;conv=>whnf
  refine u0.aA h0 [1] (.sl (.loc 1) 0 1 (wj cmpL out).length (some (wj cmpL out).length)) [(1, .rows 1 ((wj cmpL out++List.replicate ((out.mergeSort (q9 cmpL)).length-(Z5 (out.mergeSort (q9 cmpL))).length) ([]:List UInt8)).map Ze))] ?_;exact⟨_,by unfold wj;omega,rfl,rfl,rfl⟩
end Go.Proofs.YtlcbipfmodcedaaGreatDoor
namespace Go.Proofs.YtlcbipfmodcedaaGreatDoor
open Go.Sx Go.Our
open _root_.Go.Proofs.Tryz
def Zcw:uu:=(Zs [(0,1),(1,1),(2,1),(3,1),(4,1),(6,1),(7,1),(8,1),(9,1),(10,1),(5,3),(11,3),(12,1),(13,1)])
def XM:uu:=(Zs [(0,1),(1,1),(2,1),(3,1),(4,1),(5,1),(6,1),(7,1),(8,1),(9,1),(11,1),(12,1),(10,2),(13,2),(14,3),(15,1),(16,1),(17,1)])
def XN:uu:=(Zs [(0,1),(1,1),(2,1),(3,1),(4,1),(5,1),(6,1),(7,1),(8,1),(9,2),(10,2),(11,1),(12,1)])
theorem HE{K:Type}[DecidableEq K]{out:List K}{q:K}(h:out.length=0\/∃h0:0<out.length,out[out.length-1]'(by omega)≠q):oD out q=out++ [q]:=by
 unfold oD;rcases h with h|⟨h0,h⟩
 .have:=zM.1 h;subst this;rfl
 .have hne:out≠ []:=fun e=>by subst e;simp at h0
  rw[vg hne,xX];simp only;rw[zf h]
theorem HF{K:Type}[DecidableEq K]{out:List K}{q:K}(h:∃h0:0<out.length,out[out.length-1]'(by omega)=q):oD out q=out:=by
 obtain⟨h0,h⟩:=h;unfold oD;have hne:out≠ []:=fun e=>by subst e;simp at h0
 rw[vg hne,xX];simp only;rw[z7 (by simpa using h)]
theorem Zcx{K:Type}[DecidableEq K]{c:K->K->Int}(out:List K):Yq c out [] []=out:=by unfold Yq;rfl
theorem Rq{K:Type}[DecidableEq K]{c:K->K->Int}{out a b:List K}(x:K)(h:b=[]\/∃y t,b=y::t/\c x y<=0):Yq c out (x::a) b=Yq c (oD out x) a b:=by
 rcases h with rfl|⟨y,t,rfl,h⟩
 conv=>lhs;unfold Yq
 .conv=>lhs;unfold Yq
  rw[zf h]
theorem Rr{K:Type}[DecidableEq K]{c:K->K->Int}{out a b:List K}(y:K)(h:a=[]\/∃x t,a=x::t/\¬c x y<=0):Yq c out a (y::b)=Yq c (oD out y) a b:=by
 rcases h with rfl|⟨x,t,rfl,h⟩
 conv=>lhs;unfold Yq
 .conv=>lhs;unfold Yq
  rw[z7 h]
theorem Rs{l:List Tm}:(WD YH l).length<=l.length:=by
 rw[Fz bK _ l (zo _)];exact Km l
theorem YI{l:List Tm}{i k:Nat}(h:i<l.length)(e:k=i):(l.map ZF)[k]?=some (ZF l[i]):=by subst e;rw[z6,z1 h];rfl
abbrev HG(out:List Tm)(q:Tm):Prop:=out.length=0\/∃h0:0<out.length,out[out.length-1]'(by omega)≠q
theorem Bw(A:List Tm)(hA:A.length*56<=140737488351232):∀(k n i:Nat) (hk:n<=k) (hi:i+n<=A.length),vS prog uf 80 1 [.sl (.loc 0) i 4 n none] [] [(0, .rows 4 (A.map ZF))] (tC ZF 4 1 (WD YH ((A.drop i).take n)))
 |k,n,i,hk,hi=>by
  obtain⟨l,hl⟩:∃l,l=(A.drop i).take n:=⟨_,rfl⟩;have eW:l.length=n:=by rw[hl];simp;omega
  have hrows:((A.map ZF).drop i).take n=l.map ZF:=by rw[hl,xQ,List.map_drop]
  rw[<-hl];refine vS.enter Z0 call80 func80 rfl 79 rfl rfl [.tmp 2] rfl ?_;intro w0 F η0 h0;conv=>whnf
  repeat'(first|rw[hrows]|refine u6.mk (Zn 56 rfl rfl (by rw[zy];exact eW) (by simp) (by omega)) ?_|refine IW ?_ ?_<;>intro h<;>try omega)<;>conv=>whnf
  .have hs:WD YH l=l:=by unfold WD;rw[zf (by omega)]
   rw[hs];rw[zx];exact u0.rows h0 2 4 n rfl rfl rfl (Za _) ⟨by rw[eW],rfl,rfl⟩
  .have hs:WD YH l=Yq YH [] (WD YH (l.take (n/2))) (WD YH (l.drop (n/2))):=by
    conv=>lhs;unfold WD
    rw[z7 (by omega),eW]
   have e1:l.take (n/2)=(A.drop i).take (n/2):=by rw[hl,xT,x7 (by omega)]
   have e2:l.drop (n/2)=(A.drop (i+n/2)).take (n-n/2):=by rw[hl,List.drop_take,yB]
   have hn2:2<=n:=by omega
   obtain⟨k',rfl⟩:∃k',k=k'+1:=⟨k-1,by omega⟩;have r1:=Bw A hA k' (n/2) i (by omega) (by omega);have r2:=Bw A hA k' (n-n/2) (i+n/2) (by omega) (by omega);rw[<-e1]at r1;rw[<-e2]at r2;have l1:=Rs (l:=l.take (n/2));have l2:=Rs (l:=l.drop (n/2));generalize WD YH (l.take (n/2))=X at r1 hs l1;generalize WD YH (l.drop (n/2))=Y at r2 hs l2;have hw:IntKind.i64.wrap (Int.tdiv (n:Int) 2)=((n/2:Nat):Int):=by rw[xe (by omega),Z9 (by omega) (by omega)];omega
   repeat'(first|refine Z4 3 Zcw ?_|refine wh.mk (fun _ _=>?_)|refine AD ?_|rw[hw]|rw[Int.toNat_natCast]|refine AU ?_)<;>conv=>whnf
   refine CALL.aA [0] (r1) ?_;rintro r O nx ⟨rfl,rfl,rfl⟩;conv=>whnf
   repeat'(first|refine wh.mk (fun _ _=>?_))<;>conv=>whnf
   refine CALL.aA [0] (r2) ?_;rintro r O nx ⟨rfl,rfl,rfl⟩;conv=>whnf
   skip
   refine vZ.nil 5 4 rfl ?_
   refine vZ.go Z0 [] (X:=List Tm×Nat×Nat) (fun x=>x.2.1<=X.length/\x.2.2<=Y.length/\x.1.length<=x.2.1+x.2.2/\WD YH l=Yq YH x.1 (X.drop x.2.1) (Y.drop x.2.2))
    (fun x=>[(3, .sl (.loc 1) x.2.1 4 (X.length-x.2.1) none),(4, .sl (.loc 2) x.2.2 4 (Y.length-x.2.2) none),(5, .sl (.loc 3) 0 4 x.1.length none)]) (fun x=>[(1, .rows 4 (X.map ZF)),(2, .rows 4 (Y.map ZF)),(3, .rows 4 (x.1.map ZF))]) 4 (fun x=>(X.length-x.2.1)+(Y.length-x.2.2)) ([],0,0) ⟨by simp,by simp,by simp,hs⟩ ?_
   conv=>whnf
   refine⟨by exact vU.cA h0,?_⟩;rintro⟨out,p,q⟩ ⟨hp,hq,ho,hr⟩;dsimp only at hp hq ho hr⊢;have kz:X.length+Y.length<=A.length:=by simp at l1 l2;omega
   have uE:∀(h:0<out.length),IntKind.i64.wrap ((out.length:Int)-1)=((out.length-1:Nat):Int):=fun h=>by rw[Z9 (by omega) (by omega)];omega
   by_cases bM:p<X.length<;>by_cases jg:q<Y.length
   .have ha:X.drop p=X[p]::X.drop (p+1):=zm bM;have hb:Y.drop q=Y[q]::Y.drop (q+1):=zm jg;rw[ha,hb]at hr;by_cases hc:YH X[p] Y[q]<=0
    .rw[Rq _ (.inr ⟨_,_,rfl,hc⟩),<-hb]at hr
     have tY:HG out X[p]\/∃h0:0<out.length,out[out.length-1]'(by omega)=X[p]:=by
      by_cases h0:out.length=0
      exact .inl (.inl h0)
      .by_cases he:out[out.length-1]'(by omega)=X[p]
       exact .inr ⟨by omega,he⟩;exact .inl (.inr ⟨by omega,he⟩)
     rcases tY with hN|hN
     .have hr:=hr.trans (z8 (fun z=>Yq YH z (X.drop (p+1)) (Y.drop q)) (HE hN));conv=>whnf
      repeat'(first|refine Z4 7 XM ?_|refine Z4 12 XN ?_|refine wh.mk (fun _ _=>?_)|refine CALL.value (Xb _ _) rfl rfl ?_|refine u6.mk (Zn 56 rfl rfl rfl (by simp) (by omega)) ?_|refine GET.at (row:=ZF (X[p]'(by omega))) (YI (by omega) (by omega)) ?_|refine GET.at (row:=ZF (Y[q]'(by omega))) (YI (by omega) (by omega)) ?_|refine GET.at (row:=ZF (out[out.length-1]'(by omega))) (YI (by omega) (by rw[uE (by omega)];omega)) ?_|refine AU ?_|refine IW ?_ ?_<;>intro h<;>try omega)<;>conv=>whnf
      all_goals first
       |(exfalso;omega)
       |(exfalso;rcases hN with h1|⟨h1,h2⟩;omega;exact h2 (Tm.ext' (by simp only[ZF,yA,SV.int.injEq,SV.str.injEq,xI,xm];exact h)))
       |(refine⟨(out++ [X[p]],p+1,q),⟨by dsimp only;omega,by dsimp only;omega,by simp only[zh,List.length_cons,List.length_nil];omega,hr⟩,by dsimp only;omega,?_⟩;dsimp only;(conv=>whnf);(refine vU.uw h0 [1,2,6] rfl rfl rfl (by first|rfl|(simp only[Zl,Zh,Z2 _ (Za _),zB,zF]<;>rfl)) ?_ ?_<;>(repeat'(first|(with_reducible rfl)|(exact Zk (Za _) (Zd _ (Za _)))|(exact Zk (Za _) (by(simp[zg,YG,ZF])))|(exact YA rfl (by first|(simp;done)|omega|(simp;omega)))|(exact z8 (SV.int _) (by first|omega|(simp(disch:=omega) only[wI,Z9,Zp]<;>omega)|(simp;done)|(simp<;>omega)))|((conv=>whnf);refine⟨?_,?_⟩)|exact trivial|(simp only[ur,uS];done)|rfl)));done)
       |(refine⟨(out++ [X[p]],p+1,q),⟨by dsimp only;omega,by dsimp only;omega,by simp only[zh,List.length_cons,List.length_nil];omega,hr⟩,by dsimp only;omega,?_⟩;dsimp only;(conv=>whnf);(refine vU.uw h0 [1,2,5] rfl rfl rfl (by first|rfl|(simp only[Zl,Zh,Z2 _ (Za _),zB,zF]<;>rfl)) ?_ ?_<;>(repeat'(first|(with_reducible rfl)|(exact Zk (Za _) (Zd _ (Za _)))|(exact Zk (Za _) (by(simp[zg,YG,ZF])))|(exact YA rfl (by first|(simp;done)|omega|(simp;omega)))|(exact z8 (SV.int _) (by first|omega|(simp(disch:=omega) only[wI,Z9,Zp]<;>omega)|(simp;done)|(simp<;>omega)))|((conv=>whnf);refine⟨?_,?_⟩)|exact trivial|(simp only[ur,uS];done)|rfl)));done)
       |(refine⟨(out++ [X[p]],p+1,q),⟨by dsimp only;omega,by dsimp only;omega,by simp only[zh,List.length_cons,List.length_nil];omega,hr⟩,by dsimp only;omega,?_⟩;dsimp only;(conv=>whnf);(refine vU.uw h0 [1,2,7] rfl rfl rfl (by first|rfl|(simp only[Zl,Zh,Z2 _ (Za _),zB,zF]<;>rfl)) ?_ ?_<;>(repeat'(first|(with_reducible rfl)|(exact Zk (Za _) (Zd _ (Za _)))|(exact Zk (Za _) (by(simp[zg,YG,ZF])))|(exact YA rfl (by first|(simp;done)|omega|(simp;omega)))|(exact z8 (SV.int _) (by first|omega|(simp(disch:=omega) only[wI,Z9,Zp]<;>omega)|(simp;done)|(simp<;>omega)))|((conv=>whnf);refine⟨?_,?_⟩)|exact trivial|(simp only[ur,uS];done)|rfl)));done)
       |trace_state
     .have hr:=hr.trans (z8 (fun z=>Yq YH z (X.drop (p+1)) (Y.drop q)) (HF hN));conv=>whnf
      repeat'(first|refine Z4 7 XM ?_|refine Z4 12 XN ?_|refine wh.mk (fun _ _=>?_)|refine CALL.value (Xb _ _) rfl rfl ?_|refine u6.mk (Zn 56 rfl rfl rfl (by simp) (by omega)) ?_|refine GET.at (row:=ZF (X[p]'(by omega))) (YI (by omega) (by omega)) ?_|refine GET.at (row:=ZF (Y[q]'(by omega))) (YI (by omega) (by omega)) ?_|refine GET.at (row:=ZF (out[out.length-1]'(by omega))) (YI (by omega) (by rw[uE (by omega)];omega)) ?_|refine AU ?_|refine IW ?_ ?_<;>intro h<;>try omega)<;>conv=>whnf
      all_goals first
       |(exfalso;omega)
       |(exfalso;have h2:=hN.2;rw[h2]at h;simp at h;done)
       |(exfalso;have h2:=hN.1;omega)
       |(refine⟨(out,p+1,q),⟨by dsimp only;omega,by dsimp only;omega,by dsimp only;omega,hr⟩,by dsimp only;omega,?_⟩;dsimp only;(conv=>whnf);exact vU.cA h0;done)
       |trace_state
    .rw[Rr _ (.inr ⟨_,_,rfl,hc⟩),<-ha]at hr
     have tY:HG out Y[q]\/∃h0:0<out.length,out[out.length-1]'(by omega)=Y[q]:=by
      by_cases h0:out.length=0
      exact .inl (.inl h0)
      .by_cases he:out[out.length-1]'(by omega)=Y[q]
       exact .inr ⟨by omega,he⟩;exact .inl (.inr ⟨by omega,he⟩)
     rcases tY with hN|hN
     .have hr:=hr.trans (z8 (fun z=>Yq YH z (X.drop p) (Y.drop (q+1))) (HE hN));conv=>whnf
      repeat'(first|refine Z4 7 XM ?_|refine Z4 12 XN ?_|refine wh.mk (fun _ _=>?_)|refine CALL.value (Xb _ _) rfl rfl ?_|refine u6.mk (Zn 56 rfl rfl rfl (by simp) (by omega)) ?_|refine GET.at (row:=ZF (X[p]'(by omega))) (YI (by omega) (by omega)) ?_|refine GET.at (row:=ZF (Y[q]'(by omega))) (YI (by omega) (by omega)) ?_|refine GET.at (row:=ZF (out[out.length-1]'(by omega))) (YI (by omega) (by rw[uE (by omega)];omega)) ?_|refine AU ?_|refine IW ?_ ?_<;>intro h<;>try omega)<;>conv=>whnf
      all_goals first
       |(exfalso;omega)
       |(exfalso;rcases hN with h1|⟨h1,h2⟩;omega;exact h2 (Tm.ext' (by simp only[ZF,yA,SV.int.injEq,SV.str.injEq,xI,xm];exact h)))
       |(refine⟨(out++ [Y[q]],p,q+1),⟨by dsimp only;omega,by dsimp only;omega,by simp only[zh,List.length_cons,List.length_nil];omega,hr⟩,by dsimp only;omega,?_⟩;dsimp only;(conv=>whnf);(refine vU.uw h0 [1,2,6] rfl rfl rfl (by first|rfl|(simp only[Zl,Zh,Z2 _ (Za _),zB,zF]<;>rfl)) ?_ ?_<;>(repeat'(first|(with_reducible rfl)|(exact Zk (Za _) (Zd _ (Za _)))|(exact Zk (Za _) (by(simp[zg,YG,ZF])))|(exact YA rfl (by first|(simp;done)|omega|(simp;omega)))|(exact z8 (SV.int _) (by first|omega|(simp(disch:=omega) only[wI,Z9,Zp]<;>omega)|(simp;done)|(simp<;>omega)))|((conv=>whnf);refine⟨?_,?_⟩)|exact trivial|(simp only[ur,uS];done)|rfl)));done)
       |(refine⟨(out++ [Y[q]],p,q+1),⟨by dsimp only;omega,by dsimp only;omega,by simp only[zh,List.length_cons,List.length_nil];omega,hr⟩,by dsimp only;omega,?_⟩;dsimp only;(conv=>whnf);(refine vU.uw h0 [1,2,5] rfl rfl rfl (by first|rfl|(simp only[Zl,Zh,Z2 _ (Za _),zB,zF]<;>rfl)) ?_ ?_<;>(repeat'(first|(with_reducible rfl)|(exact Zk (Za _) (Zd _ (Za _)))|(exact Zk (Za _) (by(simp[zg,YG,ZF])))|(exact YA rfl (by first|(simp;done)|omega|(simp;omega)))|(exact z8 (SV.int _) (by first|omega|(simp(disch:=omega) only[wI,Z9,Zp]<;>omega)|(simp;done)|(simp<;>omega)))|((conv=>whnf);refine⟨?_,?_⟩)|exact trivial|(simp only[ur,uS];done)|rfl)));done)
       |(refine⟨(out++ [Y[q]],p,q+1),⟨by dsimp only;omega,by dsimp only;omega,by simp only[zh,List.length_cons,List.length_nil];omega,hr⟩,by dsimp only;omega,?_⟩;dsimp only;(conv=>whnf);(refine vU.uw h0 [1,2,7] rfl rfl rfl (by first|rfl|(simp only[Zl,Zh,Z2 _ (Za _),zB,zF]<;>rfl)) ?_ ?_<;>(repeat'(first|(with_reducible rfl)|(exact Zk (Za _) (Zd _ (Za _)))|(exact Zk (Za _) (by(simp[zg,YG,ZF])))|(exact YA rfl (by first|(simp;done)|omega|(simp;omega)))|(exact z8 (SV.int _) (by first|omega|(simp(disch:=omega) only[wI,Z9,Zp]<;>omega)|(simp;done)|(simp<;>omega)))|((conv=>whnf);refine⟨?_,?_⟩)|exact trivial|(simp only[ur,uS];done)|rfl)));done)
       |trace_state
     .have hr:=hr.trans (z8 (fun z=>Yq YH z (X.drop p) (Y.drop (q+1))) (HF hN));conv=>whnf
      repeat'(first|refine Z4 7 XM ?_|refine Z4 12 XN ?_|refine wh.mk (fun _ _=>?_)|refine CALL.value (Xb _ _) rfl rfl ?_|refine u6.mk (Zn 56 rfl rfl rfl (by simp) (by omega)) ?_|refine GET.at (row:=ZF (X[p]'(by omega))) (YI (by omega) (by omega)) ?_|refine GET.at (row:=ZF (Y[q]'(by omega))) (YI (by omega) (by omega)) ?_|refine GET.at (row:=ZF (out[out.length-1]'(by omega))) (YI (by omega) (by rw[uE (by omega)];omega)) ?_|refine AU ?_|refine IW ?_ ?_<;>intro h<;>try omega)<;>conv=>whnf
      all_goals first
       |(exfalso;omega)
       |(exfalso;have h2:=hN.2;rw[h2]at h;simp at h;done)
       |(exfalso;have h2:=hN.1;omega)
       |(refine⟨(out,p,q+1),⟨by dsimp only;omega,by dsimp only;omega,by dsimp only;omega,hr⟩,by dsimp only;omega,?_⟩;dsimp only;(conv=>whnf);exact vU.cA h0;done)
       |trace_state
   .have ha:X.drop p=X[p]::X.drop (p+1):=zm bM;have hb:Y.drop q=[]:=zN (by omega);rw[ha,hb,Rq _ (.inl rfl),<-hb]at hr
    have tY:HG out X[p]\/∃h0:0<out.length,out[out.length-1]'(by omega)=X[p]:=by
     by_cases h0:out.length=0
     exact .inl (.inl h0)
     .by_cases he:out[out.length-1]'(by omega)=X[p]
      exact .inr ⟨by omega,he⟩;exact .inl (.inr ⟨by omega,he⟩)
    rcases tY with hN|hN
    .have hr:=hr.trans (z8 (fun z=>Yq YH z (X.drop (p+1)) (Y.drop q)) (HE hN));conv=>whnf
     repeat'(first|refine Z4 7 XM ?_|refine Z4 12 XN ?_|refine u6.mk (Zn 56 rfl rfl rfl (by simp) (by omega)) ?_|refine GET.at (row:=ZF (X[p]'(by omega))) (YI (by omega) (by omega)) ?_|refine GET.at (row:=ZF (out[out.length-1]'(by omega))) (YI (by omega) (by rw[uE (by omega)];omega)) ?_|refine AU ?_|refine IW ?_ ?_<;>intro h<;>try omega)<;>conv=>whnf
     all_goals first
      |(exfalso;omega)
      |(exfalso;rcases hN with h1|⟨h1,h2⟩;omega;exact h2 (Tm.ext' (by simp only[ZF,yA,SV.int.injEq,SV.str.injEq,xI,xm];exact h)))
      |(refine⟨(out++ [X[p]],p+1,q),⟨by dsimp only;omega,by dsimp only;omega,by simp only[zh,List.length_cons,List.length_nil];omega,hr⟩,by dsimp only;omega,?_⟩;dsimp only;(conv=>whnf);(refine vU.uw h0 [1,2,6] rfl rfl rfl (by first|rfl|(simp only[Zl,Zh,Z2 _ (Za _),zB,zF]<;>rfl)) ?_ ?_<;>(repeat'(first|(with_reducible rfl)|(exact Zk (Za _) (Zd _ (Za _)))|(exact Zk (Za _) (by(simp[zg,YG,ZF])))|(exact YA rfl (by first|(simp;done)|omega|(simp;omega)))|(exact z8 (SV.int _) (by first|omega|(simp(disch:=omega) only[wI,Z9,Zp]<;>omega)|(simp;done)|(simp<;>omega)))|((conv=>whnf);refine⟨?_,?_⟩)|exact trivial|(simp only[ur,uS];done)|rfl)));done)
      |(refine⟨(out++ [X[p]],p+1,q),⟨by dsimp only;omega,by dsimp only;omega,by simp only[zh,List.length_cons,List.length_nil];omega,hr⟩,by dsimp only;omega,?_⟩;dsimp only;(conv=>whnf);(refine vU.uw h0 [1,2,5] rfl rfl rfl (by first|rfl|(simp only[Zl,Zh,Z2 _ (Za _),zB,zF]<;>rfl)) ?_ ?_<;>(repeat'(first|(with_reducible rfl)|(exact Zk (Za _) (Zd _ (Za _)))|(exact Zk (Za _) (by(simp[zg,YG,ZF])))|(exact YA rfl (by first|(simp;done)|omega|(simp;omega)))|(exact z8 (SV.int _) (by first|omega|(simp(disch:=omega) only[wI,Z9,Zp]<;>omega)|(simp;done)|(simp<;>omega)))|((conv=>whnf);refine⟨?_,?_⟩)|exact trivial|(simp only[ur,uS];done)|rfl)));done)
      |(refine⟨(out++ [X[p]],p+1,q),⟨by dsimp only;omega,by dsimp only;omega,by simp only[zh,List.length_cons,List.length_nil];omega,hr⟩,by dsimp only;omega,?_⟩;dsimp only;(conv=>whnf);(refine vU.uw h0 [1,2,7] rfl rfl rfl (by first|rfl|(simp only[Zl,Zh,Z2 _ (Za _),zB,zF]<;>rfl)) ?_ ?_<;>(repeat'(first|(with_reducible rfl)|(exact Zk (Za _) (Zd _ (Za _)))|(exact Zk (Za _) (by(simp[zg,YG,ZF])))|(exact YA rfl (by first|(simp;done)|omega|(simp;omega)))|(exact z8 (SV.int _) (by first|omega|(simp(disch:=omega) only[wI,Z9,Zp]<;>omega)|(simp;done)|(simp<;>omega)))|((conv=>whnf);refine⟨?_,?_⟩)|exact trivial|(simp only[ur,uS];done)|rfl)));done)
      |trace_state
    .have hr:=hr.trans (z8 (fun z=>Yq YH z (X.drop (p+1)) (Y.drop q)) (HF hN));conv=>whnf
     repeat'(first|refine Z4 7 XM ?_|refine Z4 12 XN ?_|refine u6.mk (Zn 56 rfl rfl rfl (by simp) (by omega)) ?_|refine GET.at (row:=ZF (X[p]'(by omega))) (YI (by omega) (by omega)) ?_|refine GET.at (row:=ZF (out[out.length-1]'(by omega))) (YI (by omega) (by rw[uE (by omega)];omega)) ?_|refine AU ?_|refine IW ?_ ?_<;>intro h<;>try omega)<;>conv=>whnf
     all_goals first
      |(exfalso;omega)
      |(exfalso;have h2:=hN.2;rw[h2]at h;simp at h;done)
      |(exfalso;have h2:=hN.1;omega)
      |(refine⟨(out,p+1,q),⟨by dsimp only;omega,by dsimp only;omega,by dsimp only;omega,hr⟩,by dsimp only;omega,?_⟩;dsimp only;(conv=>whnf);exact vU.cA h0;done)
      |trace_state
   .have hb:Y.drop q=Y[q]::Y.drop (q+1):=zm jg;have ha:X.drop p=[]:=zN (by omega);rw[ha,hb,Rr _ (.inl rfl),<-ha]at hr
    have tY:HG out Y[q]\/∃h0:0<out.length,out[out.length-1]'(by omega)=Y[q]:=by
     by_cases h0:out.length=0
     exact .inl (.inl h0)
     .by_cases he:out[out.length-1]'(by omega)=Y[q]
      exact .inr ⟨by omega,he⟩;exact .inl (.inr ⟨by omega,he⟩)
    rcases tY with hN|hN
    .have hr:=hr.trans (z8 (fun z=>Yq YH z (X.drop p) (Y.drop (q+1))) (HE hN));conv=>whnf
     repeat'(first|refine Z4 7 XM ?_|refine Z4 12 XN ?_|refine u6.mk (Zn 56 rfl rfl rfl (by simp) (by omega)) ?_|refine GET.at (row:=ZF (Y[q]'(by omega))) (YI (by omega) (by omega)) ?_|refine GET.at (row:=ZF (out[out.length-1]'(by omega))) (YI (by omega) (by rw[uE (by omega)];omega)) ?_|refine AU ?_|refine IW ?_ ?_<;>intro h<;>try omega)<;>conv=>whnf
     all_goals first
      |(exfalso;omega)
      |(exfalso;rcases hN with h1|⟨h1,h2⟩;omega;exact h2 (Tm.ext' (by simp only[ZF,yA,SV.int.injEq,SV.str.injEq,xI,xm];exact h)))
      |(refine⟨(out++ [Y[q]],p,q+1),⟨by dsimp only;omega,by dsimp only;omega,by simp only[zh,List.length_cons,List.length_nil];omega,hr⟩,by dsimp only;omega,?_⟩;dsimp only;(conv=>whnf);(refine vU.uw h0 [1,2,6] rfl rfl rfl (by first|rfl|(simp only[Zl,Zh,Z2 _ (Za _),zB,zF]<;>rfl)) ?_ ?_<;>(repeat'(first|(with_reducible rfl)|(exact Zk (Za _) (Zd _ (Za _)))|(exact Zk (Za _) (by(simp[zg,YG,ZF])))|(exact YA rfl (by first|(simp;done)|omega|(simp;omega)))|(exact z8 (SV.int _) (by first|omega|(simp(disch:=omega) only[wI,Z9,Zp]<;>omega)|(simp;done)|(simp<;>omega)))|((conv=>whnf);refine⟨?_,?_⟩)|exact trivial|(simp only[ur,uS];done)|rfl)));done)
      |(refine⟨(out++ [Y[q]],p,q+1),⟨by dsimp only;omega,by dsimp only;omega,by simp only[zh,List.length_cons,List.length_nil];omega,hr⟩,by dsimp only;omega,?_⟩;dsimp only;(conv=>whnf);(refine vU.uw h0 [1,2,5] rfl rfl rfl (by first|rfl|(simp only[Zl,Zh,Z2 _ (Za _),zB,zF]<;>rfl)) ?_ ?_<;>(repeat'(first|(with_reducible rfl)|(exact Zk (Za _) (Zd _ (Za _)))|(exact Zk (Za _) (by(simp[zg,YG,ZF])))|(exact YA rfl (by first|(simp;done)|omega|(simp;omega)))|(exact z8 (SV.int _) (by first|omega|(simp(disch:=omega) only[wI,Z9,Zp]<;>omega)|(simp;done)|(simp<;>omega)))|((conv=>whnf);refine⟨?_,?_⟩)|exact trivial|(simp only[ur,uS];done)|rfl)));done)
      |(refine⟨(out++ [Y[q]],p,q+1),⟨by dsimp only;omega,by dsimp only;omega,by simp only[zh,List.length_cons,List.length_nil];omega,hr⟩,by dsimp only;omega,?_⟩;dsimp only;(conv=>whnf);(refine vU.uw h0 [1,2,7] rfl rfl rfl (by first|rfl|(simp only[Zl,Zh,Z2 _ (Za _),zB,zF]<;>rfl)) ?_ ?_<;>(repeat'(first|(with_reducible rfl)|(exact Zk (Za _) (Zd _ (Za _)))|(exact Zk (Za _) (by(simp[zg,YG,ZF])))|(exact YA rfl (by first|(simp;done)|omega|(simp;omega)))|(exact z8 (SV.int _) (by first|omega|(simp(disch:=omega) only[wI,Z9,Zp]<;>omega)|(simp;done)|(simp<;>omega)))|((conv=>whnf);refine⟨?_,?_⟩)|exact trivial|(simp only[ur,uS];done)|rfl)));done)
      |trace_state
    .have hr:=hr.trans (z8 (fun z=>Yq YH z (X.drop p) (Y.drop (q+1))) (HF hN));conv=>whnf
     repeat'(first|refine Z4 7 XM ?_|refine Z4 12 XN ?_|refine u6.mk (Zn 56 rfl rfl rfl (by simp) (by omega)) ?_|refine GET.at (row:=ZF (Y[q]'(by omega))) (YI (by omega) (by omega)) ?_|refine GET.at (row:=ZF (out[out.length-1]'(by omega))) (YI (by omega) (by rw[uE (by omega)];omega)) ?_|refine AU ?_|refine IW ?_ ?_<;>intro h<;>try omega)<;>conv=>whnf
     all_goals first
      |(exfalso;omega)
      |(exfalso;have h2:=hN.2;rw[h2]at h;simp at h;done)
      |(exfalso;have h2:=hN.1;omega)
      |(refine⟨(out,p,q+1),⟨by dsimp only;omega,by dsimp only;omega,by dsimp only;omega,hr⟩,by dsimp only;omega,?_⟩;dsimp only;(conv=>whnf);exact vU.cA h0;done)
      |trace_state
   .have ha:X.drop p=[]:=zN (by omega);have hb:Y.drop q=[]:=zN (by omega);rw[ha,hb,Zcx]at hr;conv=>whnf
    repeat'(first|refine IW ?_ ?_<;>intro h<;>try omega)<;>conv=>whnf
    rw[hr];exact u0.rows h0 3 4 out.length rfl rfl rfl (Za _) ⟨rfl,rfl,rfl⟩
end Go.Proofs.YtlcbipfmodcedaaGreatDoor
