/- Part 24: Ren7, Ren8. Conditions: as each part says. -/
import Derived.Test.YtlcbipfmodcedaaGreatDoorCiso10
set_option linter.unusedVariables false
set_option linter.unusedSimpArgs false
set_option maxRecDepth 20000
set_option maxHeartbeats 8000000
namespace Go.Proofs.YtlcbipfmodcedaaGreatDoor
open Go.Sx Go.Our
theorem Zgt{K:Type}(f:Qd->K){l:List Qd}{i:Nat}(h:i<l.length):(l.take (i+1)).map f=(l.take i).map f++ [f l[i]]:=by
 rw[zB h,yo];rfl
end Go.Proofs.YtlcbipfmodcedaaGreatDoor
namespace Go.Proofs.YtlcbipfmodcedaaGreatDoor
open Go.Sx Go.Our
open _root_.Go.Proofs.Tryz
def E7:uJ:=(ZI [(1,1),(2,1),(3,1),(0,2),(4,2),(5,3),(6,1),(7,1),(8,1),(9,1),(10,1)])
theorem E8{ps:List Pr}{t:Tm}{u:List UInt8}(hk:t.k=2)(h:uW ps t.t=some u):ZT ps t=⟨t.k,u,t.y,t.l⟩:=by unfold ZT;rw[z8 hk,h]
theorem W2{ps:List Pr}{t:Tm}(hk:¬t.k=2):ZT ps t=t:=by unfold ZT;rw[z6 hk]
theorem W3{ps:List Pr}{t:Tm}(h:uW ps t.t=none):ZT ps t=t:=by unfold ZT;rw[h];split<;>rfl
theorem E9{ps:List Pr}{s:List UInt8}{idx:Nat}{v:SV}(hf:X1 KS (.str s) 0 (Jo ps ps.length)=some (idx,v)):∃(i0:Nat) (h:i0<ps.length),v= .int .i64 (i0:Int)/\uW ps s=some (ps[i0]'h).2:=by
 have h1:kM (Jo ps ps.length) s=some v:=by unfold kM;rw[hf];rfl
 rw[LI]at h1;obtain⟨i0,h2,rfl⟩:=zH.1 h1;obtain⟨h3,h4,h5⟩:=List.findIdx?_eq_some_iff_getElem.1 h2;refine⟨i0,h3,rfl,?_⟩;unfold uW
 have:ps.find? (fun p=>decide (p.1=s))=some ps[i0]:=by
  rw[List.find?_eq_some_iff_getElem];exact⟨h4,i0,h3,rfl,fun j hj=>by have:=h5 j hj;simpa using this⟩
 rw[this];rfl
theorem Ea{ps:List Pr}{s:List UInt8}(hf:X1 KS (.str s) 0 (Jo ps ps.length)=none):uW ps s=none:=by
 have h1:kM (Jo ps ps.length) s=none:=by unfold kM;rw[hf];rfl
 rw[LI,xK,List.findIdx?_eq_none_iff]at h1;unfold uW;rw[List.find?_eq_none.2 (fun x hx=>by have:=h1 x hx;simpa using this)];rfl
theorem RR:∀{rs:List (List SV)},Zj rs=true<->∀r∈rs,YN r=true
 | []=>by simp[Zj]
 |r::rs=>by simp[Zj,RR (rs:=rs)]
theorem Zei{rs:List (List SV)}(h:Zj rs=true)(k:List UInt8)(i:Int):Zj (jk KS (.str k) (.int .i64 i) rs)=true:=by
 rw[RR]at h⊢;unfold jk;split
 .intro r hr;obtain⟨j,hj,rfl⟩:=yg.1 hr;rw[vi];have h0:=h (rs[j]'(by simpa using hj)) (zq _);split
  .generalize rs[j]'(by simpa using hj)=r0 at h0;unfold fM;split
   .simp only[YN,plain,y6]at h0⊢;simpa using(by simpa using h0:plain _=true/\plain _=true).1
   exact h0
  exact h0
 .intro r hr;rcases zX.1 hr with hr|hr
  exact h r hr;have:=zJ.1 hr;subst this;rfl
theorem ZE(ps:List Pr):∀n,Zj (Jo ps n)=true
 |0=>rfl
 |n+1=>Zei (ZE ps n) _ _
theorem Y3{m:Nat}{rs:List (List SV)}(h:Zj rs=true):Zp m (.mp rs)=true:=by simp only[Zp,Zc _ h]
def Qt(ps:List Pr)(q:Qd):Nat->Qd
 |0=>q
 |1=>⟨ZT ps q.s,q.p,q.o,q.g⟩
 |2=>⟨ZT ps q.s,ZT ps q.p,q.o,q.g⟩
 |3=>⟨ZT ps q.s,ZT ps q.p,ZT ps q.o,q.g⟩
 |_=>XO ps q
theorem up0{ps:List Pr}{q:Qd}:Qt ps q 0=⟨q.s,q.p,q.o,q.g⟩:=rfl
theorem Eb{ps:List Pr}{q:Qd}:Qt ps q 1=⟨ZT ps q.s,q.p,q.o,q.g⟩:=rfl
theorem Ec{ps:List Pr}{q:Qd}:Qt ps q 2=⟨ZT ps q.s,ZT ps q.p,q.o,q.g⟩:=rfl
theorem Ed{ps:List Pr}{q:Qd}:Qt ps q 3=⟨ZT ps q.s,ZT ps q.p,ZT ps q.o,q.g⟩:=rfl
theorem Ee{ps:List Pr}{q:Qd}:Qt ps q 4=⟨ZT ps q.s,ZT ps q.p,ZT ps q.o,ZT ps q.g⟩:=rfl
theorem Z6h(n:Nat)(lim:Option Nat):vW prog uv 43 1 [.sl (.loc 0) 0 2 n lim] [] []
 (fun r O nx=>r= .fn (.func 83) [] [.ptr (.loc 1) 0 0 0]/\O=[(1, .box [.sl (.loc 0) 0 2 n lim])]/\nx=2):=by
 refine vW.enter Z3 call43 func43 rfl 4 rfl rfl [.tmp 2] rfl ?_;intro w0 F η0 h0;conv=>whnf
 repeat'(first|refine AU ?_|refine IW ?_ ?_<;>intro h<;>try omega)<;>conv=>whnf
 refine u9.at h0 [1] (.fn (.func 83) [] [.ptr (.loc 1) 0 0 0]) [(1, .box [.sl (.loc 0) 0 2 n lim])] rfl rfl rfl rfl ⟨rfl,trivial⟩ rfl ⟨rfl,rfl,rfl⟩
theorem Z95(l z:List Qd)(lim:Option Nat)(ps zp:List Pr)(GG:Option Nat)(hl:VU l)(hz:(l++z).length<=1152921504606846976)(hp:(ps++zp).length<=1152921504606846976):vW prog uv 20 2 [.sl (.loc 0) 0 16 l.length lim, .sl (.loc 1) 0 2 ps.length GG] [] [(0, .rows 16 ((l++z).map Zd)),(1, .rows 2 ((ps++zp).map JM))]
 (G3 Zd 16 2 Xj l.length (wQ ZJ (l.map (XO ps)))):=by
 unfold VU at hl;have hp1:(ps++zp).length=ps.length+zp.length:=ze;refine vW.enter Z3 call20 func20 rfl 67 rfl rfl [.tmp 4] rfl ?_;intro w0 F η0 h0;conv=>whnf
 repeat'(first|refine AU ?_|refine IW ?_ ?_<;>intro h<;>try omega)<;>conv=>whnf
 refine CALL.aA [1] (Z6h ps.length GG) ?_;rintro r O nx ⟨rfl,rfl,rfl⟩;conv=>whnf
 repeat'(first|refine AU ?_|refine IW ?_ ?_<;>intro h<;>try omega)<;>conv=>whnf
 refine kg.of Z3 (gf:=83) (g:=83) (fn:=f83) (cap:=[.ptr (.loc 4) 0 0 0]) call83 func83 rfl 19 rfl _ rfl rfl rfl rfl rfl ?_;conv=>whnf
 have hout:=h0;intro η1 h0;conv=>whnf
 repeat'(first|refine AU ?_|refine IW ?_ ?_<;>intro h<;>try omega)<;>conv=>whnf
 refine ua.j5 Z3 [0,1] [3,4,5,6] (X:=Nat) (fun m=>m<=ps.length) (fun m=>[(3, .int .i64 ((ps.length:Int)-1-(m:Int)))]) (fun m=>[(2, .mp (Jo ps m))]) 7 (fun m=>ps.length-m) 0 (by omega) ?_;conv=>whnf
 have hmp:Jo ps 0=Jo ps 0:=rfl;refine⟨by(refine vY.uA h0 rfl rfl rfl (by(repeat'(first|(refine Zo rfl ?_ ?_)|exact Zh (Za _)|exact Z7 (Za _)|exact Zh (Zl _)|exact Z7 (Zl _)|exact Y3 (ZE _ _)|rfl))) ?_ ?_<;>(repeat'(first|(exact zf Hp.mp (by first|rfl|exact hmp))|(with_reducible rfl)|exact trivial|(exact YZ rfl (by first|omega|(simp(disch:=omega) only[uP,Z4,Zb]<;>omega)|(simp;done)|(simp<;>omega)))|(exact zf (SV.int _) (by first|omega|(simp(disch:=omega) only[uP,Z4,Zb]<;>omega)|(simp;done)|(simp<;>omega)))|(exact Yw (by first|omega|(simp(disch:=omega) only[uP,Z4,Zb]<;>omega)|(simp;done)|(simp<;>omega)))|(exact Xi (by first|omega|(simp(disch:=omega) only[uP,Z4,Zb]<;>omega)|(simp;done)|(simp<;>omega)))|(exact Ze _ (h:= .rows _ _) (Za _))|(exact Ze _ (h:= .rows _ _) (Zl _))|(exact zf (Hp.rows _) (by rfl))|((conv=>whnf);refine⟨?_,?_⟩)|rfl))),?_⟩;clear hmp;intro m hm;conv=>whnf
 by_cases hml:m<ps.length
 .have hsub:ps.length-(m+1)<ps.length:=by omega
  have hmp:jk KS (.str (ps[ps.length-(m+1)]'hsub).1) (.int .i64 ((ps.length:Int)-1-(m:Int))) (Jo ps m)=Jo ps (m+1):=by
   conv=>rhs;unfold Jo
   have hg:ps.getD (ps.length-(m+1)) ([],[])=ps[ps.length-(m+1)]'hsub:=by simp[List.getD,hsub]
   rw[hg,show((ps.length-(m+1):Nat):Int)=(ps.length:Int)-1-(m:Int)by omega]
  repeat'(first|refine GET.at (row:=JM (ps[ps.length-(m+1)]'hsub)) (Gh (by omega) (by omega)) ?_|refine AU ?_|refine IW ?_ ?_<;>intro h<;>try omega)<;>conv=>whnf
  refine fO.of Z3 rfl rfl rfl ?_;intro η2 RS h2;conv=>whnf
  repeat'(first|refine ud.mk ⟨Vs _,(JN ps m).ok⟩ ?_|refine AU ?_|refine IW ?_ ?_<;>intro h<;>try omega)<;>conv=>whnf
  refine⟨m+1,by omega,by omega,?_⟩;conv=>whnf
  (refine vY.uA h0 rfl rfl rfl (by(repeat'(first|(refine Zo rfl ?_ ?_)|exact Zh (Za _)|exact Z7 (Za _)|exact Zh (Zl _)|exact Z7 (Zl _)|exact Y3 (ZE _ _)|rfl))) ?_ ?_<;>(repeat'(first|(exact zf Hp.mp (by first|rfl|exact hmp))|(with_reducible rfl)|exact trivial|(exact YZ rfl (by first|omega|(simp(disch:=omega) only[uP,Z4,Zb]<;>omega)|(simp;done)|(simp<;>omega)))|(exact zf (SV.int _) (by first|omega|(simp(disch:=omega) only[uP,Z4,Zb]<;>omega)|(simp;done)|(simp<;>omega)))|(exact Yw (by first|omega|(simp(disch:=omega) only[uP,Z4,Zb]<;>omega)|(simp;done)|(simp<;>omega)))|(exact Xi (by first|omega|(simp(disch:=omega) only[uP,Z4,Zb]<;>omega)|(simp;done)|(simp<;>omega)))|(exact Ze _ (h:= .rows _ _) (Za _))|(exact Ze _ (h:= .rows _ _) (Zl _))|(exact zf (Hp.rows _) (by rfl))|((conv=>whnf);refine⟨?_,?_⟩)|rfl)))
 .have hme:m=ps.length:=by omega
  subst hme;repeat'(first|refine AU ?_|refine IW ?_ ?_<;>intro h<;>try omega)<;>conv=>whnf
  have h0:=hout;refine ua.nil 8 16 rfl ?_;refine ua.j5 Z3 [1,5,24,25] [2,3,5] (X:=Nat) (fun i=>i<=l.length) (fun i=>[(26, .int .i64 (i:Int)),(8, .sl (.loc 7) 0 16 ((l.take i).map (XO ps)).length none)]) (fun i=>[(7, .rows 16 (((l.take i).map (XO ps)).map Zd))]) 8 (fun i=>l.length-i) 0 (by omega) ?_;conv=>whnf
  refine⟨by(refine vY.uA h0 rfl rfl rfl (by(repeat'(first|(refine Zo rfl ?_ ?_)|exact Zh (Za _)|exact Z7 (Za _)|exact Zh (Zl _)|exact Z7 (Zl _)|exact Y3 (ZE _ _)|rfl))) ?_ ?_<;>(repeat'(first|(with_reducible rfl)|exact trivial|(exact YZ rfl (by first|omega|(simp(disch:=omega) only[uP,Z4,Zb]<;>omega)|(simp;done)|(simp<;>omega)))|(exact zf (SV.int _) (by first|omega|(simp(disch:=omega) only[uP,Z4,Zb]<;>omega)|(simp;done)|(simp<;>omega)))|(exact Yw (by first|omega|(simp(disch:=omega) only[uP,Z4,Zb]<;>omega)|(simp;done)|(simp<;>omega)))|(exact Xi (by first|omega|(simp(disch:=omega) only[uP,Z4,Zb]<;>omega)|(simp;done)|(simp<;>omega)))|(exact Ze _ (h:= .rows _ _) (Za _))|(exact Ze _ (h:= .rows _ _) (Zl _))|(exact zf (Hp.rows _) (by rfl))|((conv=>whnf);refine⟨?_,?_⟩)|rfl))),?_⟩;intro i hi;have Qg:((l.take i).map (XO ps)).length=i:=by simp;omega
  conv=>whnf
  by_cases hil:i<l.length
  .have hs:=Zgt (XO ps) hil;generalize(l.take i).map (XO ps)=out at*;repeat'(first|refine GET.at (row:=Zd (l[i]'(by omega))) (MU (by omega) (by omega)) ?_|refine AU ?_|refine IW ?_ ?_<;>intro h<;>try omega)<;>conv=>whnf
   refine CALL.aA [8] (MW (l[i]'(by omega))) ?_;rintro r O nx ⟨rfl,rfl,rfl⟩;conv=>whnf
   obtain⟨q,hq⟩:∃q,q=l[i]:=⟨_,rfl⟩;refine ua.j5 Z3 [1,5,8,10,24,25,26,30] [2,3,5,7] (X:=Nat) (fun j=>j<=4) (fun j=>[(31, .int .i64 (j:Int))]) (fun j=>[(8, .box (Zd (Qt ps l[i] j)))]) 9 (fun j=>4-j) 0 (by omega) ?_;rw[<-hq];rw[<-hq]at hs;clear hq;conv=>whnf
   refine⟨by(refine vY.uA h0 rfl rfl rfl (by(repeat'(first|(refine Zo rfl ?_ ?_)|exact Zh (Za _)|exact Z7 (Za _)|exact Zh (Zl _)|exact Z7 (Zl _)|exact Y3 (ZE _ _)|rfl))) ?_ ?_<;>(repeat'(first|(with_reducible rfl)|exact trivial|(exact YZ rfl (by first|omega|(simp(disch:=omega) only[uP,Z4,Zb]<;>omega)|(simp;done)|(simp<;>omega)))|(exact zf (SV.int _) (by first|omega|(simp(disch:=omega) only[uP,Z4,Zb]<;>omega)|(simp;done)|(simp<;>omega)))|(exact Yw (by first|omega|(simp(disch:=omega) only[uP,Z4,Zb]<;>omega)|(simp;done)|(simp<;>omega)))|(exact Xi (by first|omega|(simp(disch:=omega) only[uP,Z4,Zb]<;>omega)|(simp;done)|(simp<;>omega)))|(exact Ze _ (h:= .rows _ _) (Za _))|(exact Ze _ (h:= .rows _ _) (Zl _))|(exact zf (Hp.rows _) (by rfl))|((conv=>whnf);refine⟨?_,?_⟩)|rfl))),?_⟩;intro j hj;by_cases tN:j<4
   .obtain rfl|rfl|rfl|rfl:j=0\/j=1\/j=2\/j=3:=by omega
    ·
     rw[up0];conv=>whnf
     repeat'(first|refine Zs 13 E7 ?_|refine qW.mk (fun _ _=>?_)|refine AD ?_|refine w6.mk ?_ ?_|refine ud.mk ⟨by decide,by decide,rfl⟩ ?_|refine ud.mk ⟨Vs _,(JN ps ps.length).ok⟩ ?_|refine AU ?_|refine IW ?_ ?_<;>intro h<;>try omega)<;>conv=>whnf
     refine jx.mk (fun idx v hf=>?_) (fun hf=>?_)
     .obtain⟨i0,BU,rfl,hto⟩:=E9 hf;conv=>whnf
      repeat'(first|refine GET.at (row:=JM (ps[i0]'(by omega))) (Gh (by omega) (by omega)) ?_|refine ud.mk ⟨by decide,by decide,rfl⟩ ?_|refine AU ?_|refine IW ?_ ?_<;>intro h<;>try omega)<;>conv=>whnf
      .have hn:=E8 (t:=q.s) (by omega) hto;refine⟨1,by omega,by omega,?_⟩;rw[Eb,hn];conv=>whnf
       (refine vY.uA h0 rfl rfl rfl (by(repeat'(first|(refine Zo rfl ?_ ?_)|exact Zh (Za _)|exact Z7 (Za _)|exact Zh (Zl _)|exact Z7 (Zl _)|exact Y3 (ZE _ _)|rfl))) ?_ ?_<;>(repeat'(first|(with_reducible rfl)|exact trivial|(exact YZ rfl (by first|omega|(simp(disch:=omega) only[uP,Z4,Zb]<;>omega)|(simp;done)|(simp<;>omega)))|(exact zf (SV.int _) (by first|omega|(simp(disch:=omega) only[uP,Z4,Zb]<;>omega)|(simp;done)|(simp<;>omega)))|(exact Yw (by first|omega|(simp(disch:=omega) only[uP,Z4,Zb]<;>omega)|(simp;done)|(simp<;>omega)))|(exact Xi (by first|omega|(simp(disch:=omega) only[uP,Z4,Zb]<;>omega)|(simp;done)|(simp<;>omega)))|(exact Ze _ (h:= .rows _ _) (Za _))|(exact Ze _ (h:= .rows _ _) (Zl _))|(exact zf (Hp.rows _) (by rfl))|((conv=>whnf);refine⟨?_,?_⟩)|rfl)))
      .have hn:=W2 (ps:=ps) (t:=q.s) (by omega);refine⟨1,by omega,by omega,?_⟩;rw[Eb,hn];conv=>whnf
       (refine vY.uA h0 rfl rfl rfl (by(repeat'(first|(refine Zo rfl ?_ ?_)|exact Zh (Za _)|exact Z7 (Za _)|exact Zh (Zl _)|exact Z7 (Zl _)|exact Y3 (ZE _ _)|rfl))) ?_ ?_<;>(repeat'(first|(with_reducible rfl)|exact trivial|(exact YZ rfl (by first|omega|(simp(disch:=omega) only[uP,Z4,Zb]<;>omega)|(simp;done)|(simp<;>omega)))|(exact zf (SV.int _) (by first|omega|(simp(disch:=omega) only[uP,Z4,Zb]<;>omega)|(simp;done)|(simp<;>omega)))|(exact Yw (by first|omega|(simp(disch:=omega) only[uP,Z4,Zb]<;>omega)|(simp;done)|(simp<;>omega)))|(exact Xi (by first|omega|(simp(disch:=omega) only[uP,Z4,Zb]<;>omega)|(simp;done)|(simp<;>omega)))|(exact Ze _ (h:= .rows _ _) (Za _))|(exact Ze _ (h:= .rows _ _) (Zl _))|(exact zf (Hp.rows _) (by rfl))|((conv=>whnf);refine⟨?_,?_⟩)|rfl)))
     .have hto:=Ea hf;have hn:=W3 (t:=q.s) hto;conv=>whnf
      repeat'(first|refine ud.mk ⟨by decide,by decide,rfl⟩ ?_|refine AU ?_|refine IW ?_ ?_<;>intro h<;>try omega)<;>conv=>whnf
      refine⟨1,by omega,by omega,?_⟩;rw[Eb,hn];conv=>whnf
      (refine vY.uA h0 rfl rfl rfl (by(repeat'(first|(refine Zo rfl ?_ ?_)|exact Zh (Za _)|exact Z7 (Za _)|exact Zh (Zl _)|exact Z7 (Zl _)|exact Y3 (ZE _ _)|rfl))) ?_ ?_<;>(repeat'(first|(with_reducible rfl)|exact trivial|(exact YZ rfl (by first|omega|(simp(disch:=omega) only[uP,Z4,Zb]<;>omega)|(simp;done)|(simp<;>omega)))|(exact zf (SV.int _) (by first|omega|(simp(disch:=omega) only[uP,Z4,Zb]<;>omega)|(simp;done)|(simp<;>omega)))|(exact Yw (by first|omega|(simp(disch:=omega) only[uP,Z4,Zb]<;>omega)|(simp;done)|(simp<;>omega)))|(exact Xi (by first|omega|(simp(disch:=omega) only[uP,Z4,Zb]<;>omega)|(simp;done)|(simp<;>omega)))|(exact Ze _ (h:= .rows _ _) (Za _))|(exact Ze _ (h:= .rows _ _) (Zl _))|(exact zf (Hp.rows _) (by rfl))|((conv=>whnf);refine⟨?_,?_⟩)|rfl)))
    ·
     rw[Eb];conv=>whnf
     repeat'(first|refine Zs 13 E7 ?_|refine qW.mk (fun _ _=>?_)|refine AD ?_|refine w6.mk ?_ ?_|refine ud.mk ⟨by decide,by decide,rfl⟩ ?_|refine ud.mk ⟨Vs _,(JN ps ps.length).ok⟩ ?_|refine AU ?_|refine IW ?_ ?_<;>intro h<;>try omega)<;>conv=>whnf
     refine jx.mk (fun idx v hf=>?_) (fun hf=>?_)
     .obtain⟨i0,BU,rfl,hto⟩:=E9 hf;conv=>whnf
      repeat'(first|refine GET.at (row:=JM (ps[i0]'(by omega))) (Gh (by omega) (by omega)) ?_|refine ud.mk ⟨by decide,by decide,rfl⟩ ?_|refine AU ?_|refine IW ?_ ?_<;>intro h<;>try omega)<;>conv=>whnf
      .have hn:=E8 (t:=q.p) (by omega) hto;refine⟨2,by omega,by omega,?_⟩;rw[Ec,hn];conv=>whnf
       (refine vY.uA h0 rfl rfl rfl (by(repeat'(first|(refine Zo rfl ?_ ?_)|exact Zh (Za _)|exact Z7 (Za _)|exact Zh (Zl _)|exact Z7 (Zl _)|exact Y3 (ZE _ _)|rfl))) ?_ ?_<;>(repeat'(first|(with_reducible rfl)|exact trivial|(exact YZ rfl (by first|omega|(simp(disch:=omega) only[uP,Z4,Zb]<;>omega)|(simp;done)|(simp<;>omega)))|(exact zf (SV.int _) (by first|omega|(simp(disch:=omega) only[uP,Z4,Zb]<;>omega)|(simp;done)|(simp<;>omega)))|(exact Yw (by first|omega|(simp(disch:=omega) only[uP,Z4,Zb]<;>omega)|(simp;done)|(simp<;>omega)))|(exact Xi (by first|omega|(simp(disch:=omega) only[uP,Z4,Zb]<;>omega)|(simp;done)|(simp<;>omega)))|(exact Ze _ (h:= .rows _ _) (Za _))|(exact Ze _ (h:= .rows _ _) (Zl _))|(exact zf (Hp.rows _) (by rfl))|((conv=>whnf);refine⟨?_,?_⟩)|rfl)))
      .have hn:=W2 (ps:=ps) (t:=q.p) (by omega);refine⟨2,by omega,by omega,?_⟩;rw[Ec,hn];conv=>whnf
       (refine vY.uA h0 rfl rfl rfl (by(repeat'(first|(refine Zo rfl ?_ ?_)|exact Zh (Za _)|exact Z7 (Za _)|exact Zh (Zl _)|exact Z7 (Zl _)|exact Y3 (ZE _ _)|rfl))) ?_ ?_<;>(repeat'(first|(with_reducible rfl)|exact trivial|(exact YZ rfl (by first|omega|(simp(disch:=omega) only[uP,Z4,Zb]<;>omega)|(simp;done)|(simp<;>omega)))|(exact zf (SV.int _) (by first|omega|(simp(disch:=omega) only[uP,Z4,Zb]<;>omega)|(simp;done)|(simp<;>omega)))|(exact Yw (by first|omega|(simp(disch:=omega) only[uP,Z4,Zb]<;>omega)|(simp;done)|(simp<;>omega)))|(exact Xi (by first|omega|(simp(disch:=omega) only[uP,Z4,Zb]<;>omega)|(simp;done)|(simp<;>omega)))|(exact Ze _ (h:= .rows _ _) (Za _))|(exact Ze _ (h:= .rows _ _) (Zl _))|(exact zf (Hp.rows _) (by rfl))|((conv=>whnf);refine⟨?_,?_⟩)|rfl)))
     .have hto:=Ea hf;have hn:=W3 (t:=q.p) hto;conv=>whnf
      repeat'(first|refine ud.mk ⟨by decide,by decide,rfl⟩ ?_|refine AU ?_|refine IW ?_ ?_<;>intro h<;>try omega)<;>conv=>whnf
      refine⟨2,by omega,by omega,?_⟩;rw[Ec,hn];conv=>whnf
      (refine vY.uA h0 rfl rfl rfl (by(repeat'(first|(refine Zo rfl ?_ ?_)|exact Zh (Za _)|exact Z7 (Za _)|exact Zh (Zl _)|exact Z7 (Zl _)|exact Y3 (ZE _ _)|rfl))) ?_ ?_<;>(repeat'(first|(with_reducible rfl)|exact trivial|(exact YZ rfl (by first|omega|(simp(disch:=omega) only[uP,Z4,Zb]<;>omega)|(simp;done)|(simp<;>omega)))|(exact zf (SV.int _) (by first|omega|(simp(disch:=omega) only[uP,Z4,Zb]<;>omega)|(simp;done)|(simp<;>omega)))|(exact Yw (by first|omega|(simp(disch:=omega) only[uP,Z4,Zb]<;>omega)|(simp;done)|(simp<;>omega)))|(exact Xi (by first|omega|(simp(disch:=omega) only[uP,Z4,Zb]<;>omega)|(simp;done)|(simp<;>omega)))|(exact Ze _ (h:= .rows _ _) (Za _))|(exact Ze _ (h:= .rows _ _) (Zl _))|(exact zf (Hp.rows _) (by rfl))|((conv=>whnf);refine⟨?_,?_⟩)|rfl)))
    ·
     rw[Ec];conv=>whnf
     repeat'(first|refine Zs 13 E7 ?_|refine qW.mk (fun _ _=>?_)|refine AD ?_|refine w6.mk ?_ ?_|refine ud.mk ⟨by decide,by decide,rfl⟩ ?_|refine ud.mk ⟨Vs _,(JN ps ps.length).ok⟩ ?_|refine AU ?_|refine IW ?_ ?_<;>intro h<;>try omega)<;>conv=>whnf
     refine jx.mk (fun idx v hf=>?_) (fun hf=>?_)
     .obtain⟨i0,BU,rfl,hto⟩:=E9 hf;conv=>whnf
      repeat'(first|refine GET.at (row:=JM (ps[i0]'(by omega))) (Gh (by omega) (by omega)) ?_|refine ud.mk ⟨by decide,by decide,rfl⟩ ?_|refine AU ?_|refine IW ?_ ?_<;>intro h<;>try omega)<;>conv=>whnf
      .have hn:=E8 (t:=q.o) (by omega) hto;refine⟨3,by omega,by omega,?_⟩;rw[Ed,hn];conv=>whnf
       (refine vY.uA h0 rfl rfl rfl (by(repeat'(first|(refine Zo rfl ?_ ?_)|exact Zh (Za _)|exact Z7 (Za _)|exact Zh (Zl _)|exact Z7 (Zl _)|exact Y3 (ZE _ _)|rfl))) ?_ ?_<;>(repeat'(first|(with_reducible rfl)|exact trivial|(exact YZ rfl (by first|omega|(simp(disch:=omega) only[uP,Z4,Zb]<;>omega)|(simp;done)|(simp<;>omega)))|(exact zf (SV.int _) (by first|omega|(simp(disch:=omega) only[uP,Z4,Zb]<;>omega)|(simp;done)|(simp<;>omega)))|(exact Yw (by first|omega|(simp(disch:=omega) only[uP,Z4,Zb]<;>omega)|(simp;done)|(simp<;>omega)))|(exact Xi (by first|omega|(simp(disch:=omega) only[uP,Z4,Zb]<;>omega)|(simp;done)|(simp<;>omega)))|(exact Ze _ (h:= .rows _ _) (Za _))|(exact Ze _ (h:= .rows _ _) (Zl _))|(exact zf (Hp.rows _) (by rfl))|((conv=>whnf);refine⟨?_,?_⟩)|rfl)))
      .have hn:=W2 (ps:=ps) (t:=q.o) (by omega);refine⟨3,by omega,by omega,?_⟩;rw[Ed,hn];conv=>whnf
       (refine vY.uA h0 rfl rfl rfl (by(repeat'(first|(refine Zo rfl ?_ ?_)|exact Zh (Za _)|exact Z7 (Za _)|exact Zh (Zl _)|exact Z7 (Zl _)|exact Y3 (ZE _ _)|rfl))) ?_ ?_<;>(repeat'(first|(with_reducible rfl)|exact trivial|(exact YZ rfl (by first|omega|(simp(disch:=omega) only[uP,Z4,Zb]<;>omega)|(simp;done)|(simp<;>omega)))|(exact zf (SV.int _) (by first|omega|(simp(disch:=omega) only[uP,Z4,Zb]<;>omega)|(simp;done)|(simp<;>omega)))|(exact Yw (by first|omega|(simp(disch:=omega) only[uP,Z4,Zb]<;>omega)|(simp;done)|(simp<;>omega)))|(exact Xi (by first|omega|(simp(disch:=omega) only[uP,Z4,Zb]<;>omega)|(simp;done)|(simp<;>omega)))|(exact Ze _ (h:= .rows _ _) (Za _))|(exact Ze _ (h:= .rows _ _) (Zl _))|(exact zf (Hp.rows _) (by rfl))|((conv=>whnf);refine⟨?_,?_⟩)|rfl)))
     .have hto:=Ea hf;have hn:=W3 (t:=q.o) hto;conv=>whnf
      repeat'(first|refine ud.mk ⟨by decide,by decide,rfl⟩ ?_|refine AU ?_|refine IW ?_ ?_<;>intro h<;>try omega)<;>conv=>whnf
      refine⟨3,by omega,by omega,?_⟩;rw[Ed,hn];conv=>whnf
      (refine vY.uA h0 rfl rfl rfl (by(repeat'(first|(refine Zo rfl ?_ ?_)|exact Zh (Za _)|exact Z7 (Za _)|exact Zh (Zl _)|exact Z7 (Zl _)|exact Y3 (ZE _ _)|rfl))) ?_ ?_<;>(repeat'(first|(with_reducible rfl)|exact trivial|(exact YZ rfl (by first|omega|(simp(disch:=omega) only[uP,Z4,Zb]<;>omega)|(simp;done)|(simp<;>omega)))|(exact zf (SV.int _) (by first|omega|(simp(disch:=omega) only[uP,Z4,Zb]<;>omega)|(simp;done)|(simp<;>omega)))|(exact Yw (by first|omega|(simp(disch:=omega) only[uP,Z4,Zb]<;>omega)|(simp;done)|(simp<;>omega)))|(exact Xi (by first|omega|(simp(disch:=omega) only[uP,Z4,Zb]<;>omega)|(simp;done)|(simp<;>omega)))|(exact Ze _ (h:= .rows _ _) (Za _))|(exact Ze _ (h:= .rows _ _) (Zl _))|(exact zf (Hp.rows _) (by rfl))|((conv=>whnf);refine⟨?_,?_⟩)|rfl)))
    ·
     rw[Ed];conv=>whnf
     repeat'(first|refine Zs 13 E7 ?_|refine qW.mk (fun _ _=>?_)|refine AD ?_|refine w6.mk ?_ ?_|refine ud.mk ⟨by decide,by decide,rfl⟩ ?_|refine ud.mk ⟨Vs _,(JN ps ps.length).ok⟩ ?_|refine AU ?_|refine IW ?_ ?_<;>intro h<;>try omega)<;>conv=>whnf
     refine jx.mk (fun idx v hf=>?_) (fun hf=>?_)
     .obtain⟨i0,BU,rfl,hto⟩:=E9 hf;conv=>whnf
      repeat'(first|refine GET.at (row:=JM (ps[i0]'(by omega))) (Gh (by omega) (by omega)) ?_|refine ud.mk ⟨by decide,by decide,rfl⟩ ?_|refine AU ?_|refine IW ?_ ?_<;>intro h<;>try omega)<;>conv=>whnf
      .have hn:=E8 (t:=q.g) (by omega) hto;refine⟨4,by omega,by omega,?_⟩;rw[Ee,hn];conv=>whnf
       (refine vY.uA h0 rfl rfl rfl (by(repeat'(first|(refine Zo rfl ?_ ?_)|exact Zh (Za _)|exact Z7 (Za _)|exact Zh (Zl _)|exact Z7 (Zl _)|exact Y3 (ZE _ _)|rfl))) ?_ ?_<;>(repeat'(first|(with_reducible rfl)|exact trivial|(exact YZ rfl (by first|omega|(simp(disch:=omega) only[uP,Z4,Zb]<;>omega)|(simp;done)|(simp<;>omega)))|(exact zf (SV.int _) (by first|omega|(simp(disch:=omega) only[uP,Z4,Zb]<;>omega)|(simp;done)|(simp<;>omega)))|(exact Yw (by first|omega|(simp(disch:=omega) only[uP,Z4,Zb]<;>omega)|(simp;done)|(simp<;>omega)))|(exact Xi (by first|omega|(simp(disch:=omega) only[uP,Z4,Zb]<;>omega)|(simp;done)|(simp<;>omega)))|(exact Ze _ (h:= .rows _ _) (Za _))|(exact Ze _ (h:= .rows _ _) (Zl _))|(exact zf (Hp.rows _) (by rfl))|((conv=>whnf);refine⟨?_,?_⟩)|rfl)))
      .have hn:=W2 (ps:=ps) (t:=q.g) (by omega);refine⟨4,by omega,by omega,?_⟩;rw[Ee,hn];conv=>whnf
       (refine vY.uA h0 rfl rfl rfl (by(repeat'(first|(refine Zo rfl ?_ ?_)|exact Zh (Za _)|exact Z7 (Za _)|exact Zh (Zl _)|exact Z7 (Zl _)|exact Y3 (ZE _ _)|rfl))) ?_ ?_<;>(repeat'(first|(with_reducible rfl)|exact trivial|(exact YZ rfl (by first|omega|(simp(disch:=omega) only[uP,Z4,Zb]<;>omega)|(simp;done)|(simp<;>omega)))|(exact zf (SV.int _) (by first|omega|(simp(disch:=omega) only[uP,Z4,Zb]<;>omega)|(simp;done)|(simp<;>omega)))|(exact Yw (by first|omega|(simp(disch:=omega) only[uP,Z4,Zb]<;>omega)|(simp;done)|(simp<;>omega)))|(exact Xi (by first|omega|(simp(disch:=omega) only[uP,Z4,Zb]<;>omega)|(simp;done)|(simp<;>omega)))|(exact Ze _ (h:= .rows _ _) (Za _))|(exact Ze _ (h:= .rows _ _) (Zl _))|(exact zf (Hp.rows _) (by rfl))|((conv=>whnf);refine⟨?_,?_⟩)|rfl)))
     .have hto:=Ea hf;have hn:=W3 (t:=q.g) hto;conv=>whnf
      repeat'(first|refine ud.mk ⟨by decide,by decide,rfl⟩ ?_|refine AU ?_|refine IW ?_ ?_<;>intro h<;>try omega)<;>conv=>whnf
      refine⟨4,by omega,by omega,?_⟩;rw[Ee,hn];conv=>whnf
      (refine vY.uA h0 rfl rfl rfl (by(repeat'(first|(refine Zo rfl ?_ ?_)|exact Zh (Za _)|exact Z7 (Za _)|exact Zh (Zl _)|exact Z7 (Zl _)|exact Y3 (ZE _ _)|rfl))) ?_ ?_<;>(repeat'(first|(with_reducible rfl)|exact trivial|(exact YZ rfl (by first|omega|(simp(disch:=omega) only[uP,Z4,Zb]<;>omega)|(simp;done)|(simp<;>omega)))|(exact zf (SV.int _) (by first|omega|(simp(disch:=omega) only[uP,Z4,Zb]<;>omega)|(simp;done)|(simp<;>omega)))|(exact Yw (by first|omega|(simp(disch:=omega) only[uP,Z4,Zb]<;>omega)|(simp;done)|(simp<;>omega)))|(exact Xi (by first|omega|(simp(disch:=omega) only[uP,Z4,Zb]<;>omega)|(simp;done)|(simp<;>omega)))|(exact Ze _ (h:= .rows _ _) (Za _))|(exact Ze _ (h:= .rows _ _) (Zl _))|(exact zf (Hp.rows _) (by rfl))|((conv=>whnf);refine⟨?_,?_⟩)|rfl)))
   .obtain rfl:j=4:=by omega
    rw[Ee];conv=>whnf
    repeat'(first|refine ud.mk (Ye 224 rfl rfl (by simp) (by simp) (by omega)) ?_|refine AU ?_|refine IW ?_ ?_<;>intro h<;>try omega)<;>conv=>whnf
    refine⟨i+1,by omega,by omega,?_⟩;rw[hs];conv=>whnf
    (refine vY.jI h0 [2,3,4,5,6,10] rfl rfl rfl (by(repeat'(first|(refine Zo rfl ?_ ?_)|exact Zh (Za _)|exact Z7 (Za _)|exact Y3 (ZE _ _)|rfl))) ?_ ?_<;>(repeat'(first|(exact(Ze _ (h:= .mp _) (ZE _ _)).symm)|(with_reducible rfl)|exact trivial|(exact YZ rfl (by first|omega|(simp(disch:=omega) only[uP,Z4,Zb]<;>omega)|(simp;done)|(simp<;>omega)))|(exact zf (SV.int _) (by first|omega|(simp(disch:=omega) only[uP,Z4,Zb]<;>omega)|(simp;done)|(simp<;>omega)))|(exact Yw (by first|omega|(simp(disch:=omega) only[uP,Z4,Zb]<;>omega)|(simp;done)|(simp<;>omega)))|(exact Xi (by first|omega|(simp(disch:=omega) only[uP,Z4,Zb]<;>omega)|(simp;done)|(simp<;>omega)))|(exact(Ze _ (h:= .rows _ _) (Za _)).symm)|(exact(Ze _ (h:= .rows _ _) (Za _)).trans (Ze _ (h:= .rows _ _) (Za _)).symm)|(exact Xg (Za _) (by(simp[zo,J9,Zd,XO])))|((conv=>whnf);refine⟨?_,?_⟩)|(simp only[uD,kj];done)|rfl)))
  .have hie:i=l.length:=by omega
   subst hie;rw[yb]at Qg⊢;generalize l.map (XO ps)=out at*;have hT:=Zb8 out [] none (by unfold VU;omega);rw[zU]at hT;repeat'(first|refine AU ?_|refine IW ?_ ?_<;>intro h<;>try omega)<;>conv=>whnf
   refine CALL.aA [7] (hT) ?_;rintro r O nx ⟨j,hj,rfl,rfl,rfl⟩;conv=>whnf
   refine u9.aA h0 [8] (.sl (.loc 2) 0 16 (wQ ZJ out).length (some (wQ ZJ out).length)) [(2, .rows 16 ((wQ ZJ out++List.replicate j Xj).map Zd))] ?_;exact⟨j,by omega,rfl,rfl,rfl⟩
end Go.Proofs.YtlcbipfmodcedaaGreatDoor
