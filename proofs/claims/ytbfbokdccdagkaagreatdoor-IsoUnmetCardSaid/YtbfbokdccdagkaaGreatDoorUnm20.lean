/- Part 20: Ren8. Conditions: as each part says. -/
import Derived.Test.YtbfbokdccdagkaaGreatDoorUnm12
set_option linter.unusedVariables false
set_option linter.unusedSimpArgs false
set_option maxRecDepth 20000
set_option maxHeartbeats 8000000
namespace Go.Proofs.YtbfbokdccdagkaaGreatDoor
open Go.Sx Go.Our
open Tryz
def Z50:Plan:=(ZU [(1,1),(2,1),(3,1),(0,2),(4,2),(5,3),(6,1),(7,1),(8,1),(9,1),(10,1)])
theorem WL{ps:List Pr}{t:Tm}{u:List UInt8}(hk:t.k=2)(h:toOf ps t.t=some u):ZO ps t=⟨t.k,u,t.y,t.l⟩:=by unfold ZO;rw[if_pos hk,h]
theorem Uu{ps:List Pr}{t:Tm}(hk:¬t.k=2):ZO ps t=t:=by unfold ZO;rw[if_neg hk]
theorem Uv{ps:List Pr}{t:Tm}(h:toOf ps t.t=none):ZO ps t=t:=by unfold ZO;rw[h];split<;>rfl
theorem Z1k{ps:List Pr}{s:List UInt8}{idx:Nat}{v:SV}(hf:YM KS (.str s) 0 (Je ps ps.length)=some (idx,v)):∃(i0:Nat) (h:i0<ps.length),v= .int .i64 (i0:Int)/\toOf ps s=some (ps[i0]'h).2:=by
 have h1:valM (Je ps ps.length) s=some v:=by unfold valM;rw[hf];rfl
 rw[Z6g]at h1;obtain⟨i0,h2,rfl⟩:=Option.map_eq_some_iff.1 h1;obtain⟨h3,h4,h5⟩:=List.findIdx?_eq_some_iff_getElem.1 h2;refine⟨i0,h3,rfl,?_⟩;unfold toOf
 have:ps.find? (fun p=>decide (p.1=s))=some ps[i0]:=by
  rw[List.find?_eq_some_iff_getElem];exact⟨h4,i0,h3,rfl,fun j hj=>by have:=h5 j hj;simpa using this⟩
 rw[this];rfl
theorem Z51{ps:List Pr}{s:List UInt8}(hf:YM KS (.str s) 0 (Je ps ps.length)=none):toOf ps s=none:=by
 have h1:valM (Je ps ps.length) s=none:=by unfold valM;rw[hf];rfl
 rw[Z6g,Option.map_eq_none_iff,List.findIdx?_eq_none_iff]at h1;unfold toOf;rw[List.find?_eq_none.2 (fun x hx=>by have:=h1 x hx;simpa using this)];rfl
theorem Z2J:∀{rs:List (List SV)},Zn rs=true<->∀r∈rs,YB r=true
 | []=>by simp[Zn]
 |r::rs=>by simp[Zn,Z2J (rs:=rs)]
theorem Zca{rs:List (List SV)}(h:Zn rs=true)(k:List UInt8)(i:Int):Zn (setM KS (.str k) (.int .i64 i) rs)=true:=by
 rw[Z2J]at h⊢;unfold setM;split
 ·intro r hr;obtain⟨j,hj,rfl⟩:=List.mem_iff_getElem.1 hr;rw[List.getElem_modify];have h0:=h (rs[j]'(by simpa using hj)) (List.getElem_mem _);split
  ·generalize rs[j]'(by simpa using hj)=r0 at h0;unfold putV;split
   ·simp only[YB,plain,Bool.and_true]at h0⊢;simpa using(by simpa using h0:plain _=true/\plain _=true).1
   ·exact h0
  ·exact h0
 ·intro r hr;rcases List.mem_append.1 hr with hr|hr
  ·exact h r hr
  ·have:=List.mem_singleton.1 hr;subst this;rfl
theorem Zy(ps:List Pr):∀n,Zn (Je ps n)=true
 |0=>rfl
 |n+1=>Zca (Zy ps n) _ _
theorem ZV{m:Nat}{rs:List (List SV)}(h:Zn rs=true):Zs m (.mp rs)=true:=by simp only[Zs,Ze _ h]
def upQ(ps:List Pr)(q:Qd):Nat->Qd
 |0=>q
 |1=>⟨ZO ps q.s,q.p,q.o,q.g⟩
 |2=>⟨ZO ps q.s,ZO ps q.p,q.o,q.g⟩
 |3=>⟨ZO ps q.s,ZO ps q.p,ZO ps q.o,q.g⟩
 |_=>XB ps q
theorem up0{ps:List Pr}{q:Qd}:upQ ps q 0=⟨q.s,q.p,q.o,q.g⟩:=rfl
theorem up1{ps:List Pr}{q:Qd}:upQ ps q 1=⟨ZO ps q.s,q.p,q.o,q.g⟩:=rfl
theorem up2{ps:List Pr}{q:Qd}:upQ ps q 2=⟨ZO ps q.s,ZO ps q.p,q.o,q.g⟩:=rfl
theorem up3{ps:List Pr}{q:Qd}:upQ ps q 3=⟨ZO ps q.s,ZO ps q.p,ZO ps q.o,q.g⟩:=rfl
theorem up4{ps:List Pr}{q:Qd}:upQ ps q 4=⟨ZO ps q.s,ZO ps q.p,ZO ps q.o,ZO ps q.g⟩:=rfl
theorem Z52(n:Nat)(lim:Option Nat):Does prog tab 66 1 [.sl (.loc 0) 0 2 n lim] [] []
 (fun r O nx=>r= .fn (.func 91) [] [.ptr (.loc 1) 0 0 0]/\O=[(1, .box [.sl (.loc 0) 0 2 n lim])]/\nx=2):=by
 refine Does.enter Z1 call66 func66 rfl 4 rfl rfl [.tmp 2] rfl ?_;intro w0 F η0 h0;conv=>whnf
 repeat'((first|refine AU ?_|(refine IW ?_ ?_<;>intro h<;>try(exfalso;omega)))<;>conv=>whnf)
 refine FIN.at h0 [1] (.fn (.func 91) [] [.ptr (.loc 1) 0 0 0]) [(1, .box [.sl (.loc 0) 0 2 n lim])] rfl rfl rfl rfl ⟨rfl,trivial⟩ rfl ⟨rfl,rfl,rfl⟩
theorem Z2K(l z:List Qd)(lim:Option Nat)(ps zp:List Pr)(limP:Option Nat)(hl:Xf l)(hz:(l++z).length<=1152921504606846976)(hp:(ps++zp).length<=1152921504606846976):Does prog tab 31 2 [.sl (.loc 0) 0 16 l.length lim, .sl (.loc 1) 0 2 ps.length limP] [] [(0, .rows 16 ((l++z).map Zl)),(1, .rows 2 ((ps++zp).map XC))]
 (Z5K Zl 16 2 Yv l.length (setL ZH (l.map (XB ps)))):=by
 unfold Xf at hl;have hp1:(ps++zp).length=ps.length+zp.length:=List.length_append;refine Does.enter Z1 call31 func31 rfl 67 rfl rfl [.tmp 4] rfl ?_;intro w0 F η0 h0;conv=>whnf
 repeat'((first|refine AU ?_|(refine IW ?_ ?_<;>intro h<;>try(exfalso;omega)))<;>conv=>whnf)
 refine CALL.aA [1] (Z52 ps.length limP) ?_;rintro r O nx ⟨rfl,rfl,rfl⟩;conv=>whnf
 repeat'((first|refine AU ?_|(refine IW ?_ ?_<;>intro h<;>try(exfalso;omega)))<;>conv=>whnf)
 refine RANGEF.of Z1 (gf:=91) (g:=91) (fn:=f91) (cap:=[.ptr (.loc 4) 0 0 0]) call91 func91 rfl 19 rfl _ rfl rfl rfl rfl rfl ?_;conv=>whnf
 have hout:=h0;intro η1 h0;conv=>whnf
 repeat'((first|refine AU ?_|(refine IW ?_ ?_<;>intro h<;>try(exfalso;omega)))<;>conv=>whnf)
 refine LOOP.gok Z1 [0,1] [3,4,5,6] (X:=Nat) (fun m=>m<=ps.length) (fun m=>[(3, .int .i64 ((ps.length:Int)-1-(m:Int)))]) (fun m=>[(2, .mp (Je ps m))]) 7 (fun m=>ps.length-m) 0 (by omega) ?_;conv=>whnf
 have hmp:Je ps 0=Je ps 0:=rfl;refine⟨by(refine GOES.cutting h0 rfl rfl rfl (by(repeat'(first|(refine Zm rfl ?_ ?_)|exact Zf (Zb _)|exact Z7 (Zb _)|exact Zf (Zh _)|exact Z7 (Zh _)|exact ZV (Zy _ _)|rfl))) ?_ ?_<;>(repeat'(first|(exact congrArg Hp.mp (by first|rfl|exact hmp))|(with_reducible rfl)|exact trivial|(exact YY rfl (by first|omega|(simp(disch:=omega) only[lnB,Z6,Z9]<;>omega)|(simp;done)|(simp<;>omega)))|(exact congrArg (SV.int _) (by first|omega|(simp(disch:=omega) only[lnB,Z6,Z9]<;>omega)|(simp;done)|(simp<;>omega)))|(exact Yr (by first|omega|(simp(disch:=omega) only[lnB,Z6,Z9]<;>omega)|(simp;done)|(simp<;>omega)))|(exact X9 (by first|omega|(simp(disch:=omega) only[lnB,Z6,Z9]<;>omega)|(simp;done)|(simp<;>omega)))|(exact Zc _ (h:= .rows _ _) (Zb _))|(exact Zc _ (h:= .rows _ _) (Zh _))|(exact congrArg (Hp.rows _) (by rfl))|((conv=>whnf);refine⟨?_,?_⟩)|rfl))),?_⟩;clear hmp;intro m hm;conv=>whnf
 by_cases hml:m<ps.length
 ·have hsub:ps.length-(m+1)<ps.length:=by omega
  have hmp:setM KS (.str (ps[ps.length-(m+1)]'hsub).1) (.int .i64 ((ps.length:Int)-1-(m:Int))) (Je ps m)=Je ps (m+1):=by
   conv=>rhs;unfold Je
   have hg:ps.getD (ps.length-(m+1)) ([],[])=ps[ps.length-(m+1)]'hsub:=by simp[List.getD,hsub]
   rw[hg,show((ps.length-(m+1):Nat):Int)=(ps.length:Int)-1-(m:Int)by omega]
  repeat'((first|(refine GET.at (row:=XC (ps[ps.length-(m+1)]'hsub)) (Z3L (by omega) (by omega)) ?_;conv=>whnf)|refine AU ?_|(refine IW ?_ ?_<;>intro h<;>try(exfalso;omega)))<;>conv=>whnf)
  refine YIELD.of Z1 rfl rfl rfl ?_;intro η2 ro2 h2;conv=>whnf
  repeat'((first|(refine NEED.mk ⟨Ve _,(JH ps m).ok⟩ ?_;conv=>whnf)|refine AU ?_|(refine IW ?_ ?_<;>intro h<;>try(exfalso;omega)))<;>conv=>whnf)
  refine⟨m+1,by omega,by omega,?_⟩;conv=>whnf
  (refine GOES.cutting h0 rfl rfl rfl (by(repeat'(first|(refine Zm rfl ?_ ?_)|exact Zf (Zb _)|exact Z7 (Zb _)|exact Zf (Zh _)|exact Z7 (Zh _)|exact ZV (Zy _ _)|rfl))) ?_ ?_<;>(repeat'(first|(exact congrArg Hp.mp (by first|rfl|exact hmp))|(with_reducible rfl)|exact trivial|(exact YY rfl (by first|omega|(simp(disch:=omega) only[lnB,Z6,Z9]<;>omega)|(simp;done)|(simp<;>omega)))|(exact congrArg (SV.int _) (by first|omega|(simp(disch:=omega) only[lnB,Z6,Z9]<;>omega)|(simp;done)|(simp<;>omega)))|(exact Yr (by first|omega|(simp(disch:=omega) only[lnB,Z6,Z9]<;>omega)|(simp;done)|(simp<;>omega)))|(exact X9 (by first|omega|(simp(disch:=omega) only[lnB,Z6,Z9]<;>omega)|(simp;done)|(simp<;>omega)))|(exact Zc _ (h:= .rows _ _) (Zb _))|(exact Zc _ (h:= .rows _ _) (Zh _))|(exact congrArg (Hp.rows _) (by rfl))|((conv=>whnf);refine⟨?_,?_⟩)|rfl)))
 ·have hme:m=ps.length:=by omega
  subst hme;repeat'((first|refine AU ?_|(refine IW ?_ ?_<;>intro h<;>try(exfalso;omega)))<;>conv=>whnf)
  have h0:=hout;refine LOOP.nil 8 16 rfl ?_;refine LOOP.gok Z1 [1,5,24,25] [2,3,5] (X:=Nat) (fun i=>i<=l.length) (fun i=>[(26, .int .i64 (i:Int)),(8, .sl (.loc 7) 0 16 ((l.take i).map (XB ps)).length none)]) (fun i=>[(7, .rows 16 (((l.take i).map (XB ps)).map Zl))]) 8 (fun i=>l.length-i) 0 (by omega) ?_;conv=>whnf
  refine⟨by(refine GOES.cutting h0 rfl rfl rfl (by(repeat'(first|(refine Zm rfl ?_ ?_)|exact Zf (Zb _)|exact Z7 (Zb _)|exact Zf (Zh _)|exact Z7 (Zh _)|exact ZV (Zy _ _)|rfl))) ?_ ?_<;>(repeat'(first|(with_reducible rfl)|exact trivial|(exact YY rfl (by first|omega|(simp(disch:=omega) only[lnB,Z6,Z9]<;>omega)|(simp;done)|(simp<;>omega)))|(exact congrArg (SV.int _) (by first|omega|(simp(disch:=omega) only[lnB,Z6,Z9]<;>omega)|(simp;done)|(simp<;>omega)))|(exact Yr (by first|omega|(simp(disch:=omega) only[lnB,Z6,Z9]<;>omega)|(simp;done)|(simp<;>omega)))|(exact X9 (by first|omega|(simp(disch:=omega) only[lnB,Z6,Z9]<;>omega)|(simp;done)|(simp<;>omega)))|(exact Zc _ (h:= .rows _ _) (Zb _))|(exact Zc _ (h:= .rows _ _) (Zh _))|(exact congrArg (Hp.rows _) (by rfl))|((conv=>whnf);refine⟨?_,?_⟩)|rfl))),?_⟩;intro i hi;have hli:((l.take i).map (XB ps)).length=i:=by simp;omega
  conv=>whnf
  by_cases hil:i<l.length
  ·have hs:=ZdN (XB ps) hil;generalize(l.take i).map (XB ps)=out at*;repeat'((first|(refine GET.at (row:=Zl (l[i]'(by omega))) (Zem (by omega) (by omega)) ?_;conv=>whnf)|refine AU ?_|(refine IW ?_ ?_<;>intro h<;>try(exfalso;omega)))<;>conv=>whnf)
   refine CALL.aA [8] (Z5Q (l[i]'(by omega))) ?_;rintro r O nx ⟨rfl,rfl,rfl⟩;conv=>whnf
   obtain⟨q,hq⟩:∃q,q=l[i]:=⟨_,rfl⟩;refine LOOP.gok Z1 [1,5,8,10,24,25,26,30] [2,3,5,7] (X:=Nat) (fun j=>j<=4) (fun j=>[(31, .int .i64 (j:Int))]) (fun j=>[(8, .box (Zl (upQ ps l[i] j)))]) 9 (fun j=>4-j) 0 (by omega) ?_;rw[<-hq];rw[<-hq]at hs;clear hq;conv=>whnf
   refine⟨by(refine GOES.cutting h0 rfl rfl rfl (by(repeat'(first|(refine Zm rfl ?_ ?_)|exact Zf (Zb _)|exact Z7 (Zb _)|exact Zf (Zh _)|exact Z7 (Zh _)|exact ZV (Zy _ _)|rfl))) ?_ ?_<;>(repeat'(first|(with_reducible rfl)|exact trivial|(exact YY rfl (by first|omega|(simp(disch:=omega) only[lnB,Z6,Z9]<;>omega)|(simp;done)|(simp<;>omega)))|(exact congrArg (SV.int _) (by first|omega|(simp(disch:=omega) only[lnB,Z6,Z9]<;>omega)|(simp;done)|(simp<;>omega)))|(exact Yr (by first|omega|(simp(disch:=omega) only[lnB,Z6,Z9]<;>omega)|(simp;done)|(simp<;>omega)))|(exact X9 (by first|omega|(simp(disch:=omega) only[lnB,Z6,Z9]<;>omega)|(simp;done)|(simp<;>omega)))|(exact Zc _ (h:= .rows _ _) (Zb _))|(exact Zc _ (h:= .rows _ _) (Zh _))|(exact congrArg (Hp.rows _) (by rfl))|((conv=>whnf);refine⟨?_,?_⟩)|rfl))),?_⟩;intro j hj;by_cases hj4:j<4
   ·obtain rfl|rfl|rfl|rfl:j=0\/j=1\/j=2\/j=3:=by omega
    ·
     rw[up0];conv=>whnf
     repeat'((first|refine DRAWN.of (id:=13) Z1 mixed Z50 (by kernel_rfl) ?_|refine ADD.mk (fun _ _=>?_)|refine AD ?_|refine FORK.mk ?_ ?_|(refine NEED.mk ⟨by decide,by decide,rfl⟩ ?_;conv=>whnf)|(refine NEED.mk ⟨Ve _,(JH ps ps.length).ok⟩ ?_;conv=>whnf)|refine AU ?_|(refine IW ?_ ?_<;>intro h<;>try(exfalso;omega)))<;>conv=>whnf)
     refine FIND.mk (fun idx v hf=>?_) (fun hf=>?_)
     ·obtain⟨i0,hi0,rfl,hto⟩:=Z1k hf;conv=>whnf
      repeat'((first|(refine GET.at (row:=XC (ps[i0]'(by omega))) (Z3L (by omega) (by omega)) ?_;conv=>whnf)|(refine NEED.mk ⟨by decide,by decide,rfl⟩ ?_;conv=>whnf)|refine AU ?_|(refine IW ?_ ?_<;>intro h<;>try(exfalso;omega)))<;>conv=>whnf)
      ·have hn:=WL (t:=q.s) (by omega) hto;refine⟨1,by omega,by omega,?_⟩;rw[up1,hn];conv=>whnf
       (refine GOES.cutting h0 rfl rfl rfl (by(repeat'(first|(refine Zm rfl ?_ ?_)|exact Zf (Zb _)|exact Z7 (Zb _)|exact Zf (Zh _)|exact Z7 (Zh _)|exact ZV (Zy _ _)|rfl))) ?_ ?_<;>(repeat'(first|(with_reducible rfl)|exact trivial|(exact YY rfl (by first|omega|(simp(disch:=omega) only[lnB,Z6,Z9]<;>omega)|(simp;done)|(simp<;>omega)))|(exact congrArg (SV.int _) (by first|omega|(simp(disch:=omega) only[lnB,Z6,Z9]<;>omega)|(simp;done)|(simp<;>omega)))|(exact Yr (by first|omega|(simp(disch:=omega) only[lnB,Z6,Z9]<;>omega)|(simp;done)|(simp<;>omega)))|(exact X9 (by first|omega|(simp(disch:=omega) only[lnB,Z6,Z9]<;>omega)|(simp;done)|(simp<;>omega)))|(exact Zc _ (h:= .rows _ _) (Zb _))|(exact Zc _ (h:= .rows _ _) (Zh _))|(exact congrArg (Hp.rows _) (by rfl))|((conv=>whnf);refine⟨?_,?_⟩)|rfl)))
      ·have hn:=Uu (ps:=ps) (t:=q.s) (by omega);refine⟨1,by omega,by omega,?_⟩;rw[up1,hn];conv=>whnf
       (refine GOES.cutting h0 rfl rfl rfl (by(repeat'(first|(refine Zm rfl ?_ ?_)|exact Zf (Zb _)|exact Z7 (Zb _)|exact Zf (Zh _)|exact Z7 (Zh _)|exact ZV (Zy _ _)|rfl))) ?_ ?_<;>(repeat'(first|(with_reducible rfl)|exact trivial|(exact YY rfl (by first|omega|(simp(disch:=omega) only[lnB,Z6,Z9]<;>omega)|(simp;done)|(simp<;>omega)))|(exact congrArg (SV.int _) (by first|omega|(simp(disch:=omega) only[lnB,Z6,Z9]<;>omega)|(simp;done)|(simp<;>omega)))|(exact Yr (by first|omega|(simp(disch:=omega) only[lnB,Z6,Z9]<;>omega)|(simp;done)|(simp<;>omega)))|(exact X9 (by first|omega|(simp(disch:=omega) only[lnB,Z6,Z9]<;>omega)|(simp;done)|(simp<;>omega)))|(exact Zc _ (h:= .rows _ _) (Zb _))|(exact Zc _ (h:= .rows _ _) (Zh _))|(exact congrArg (Hp.rows _) (by rfl))|((conv=>whnf);refine⟨?_,?_⟩)|rfl)))
     ·have hto:=Z51 hf;have hn:=Uv (t:=q.s) hto;conv=>whnf
      repeat'((first|(refine NEED.mk ⟨by decide,by decide,rfl⟩ ?_;conv=>whnf)|refine AU ?_|(refine IW ?_ ?_<;>intro h<;>try(exfalso;omega)))<;>conv=>whnf)
      refine⟨1,by omega,by omega,?_⟩;rw[up1,hn];conv=>whnf
      (refine GOES.cutting h0 rfl rfl rfl (by(repeat'(first|(refine Zm rfl ?_ ?_)|exact Zf (Zb _)|exact Z7 (Zb _)|exact Zf (Zh _)|exact Z7 (Zh _)|exact ZV (Zy _ _)|rfl))) ?_ ?_<;>(repeat'(first|(with_reducible rfl)|exact trivial|(exact YY rfl (by first|omega|(simp(disch:=omega) only[lnB,Z6,Z9]<;>omega)|(simp;done)|(simp<;>omega)))|(exact congrArg (SV.int _) (by first|omega|(simp(disch:=omega) only[lnB,Z6,Z9]<;>omega)|(simp;done)|(simp<;>omega)))|(exact Yr (by first|omega|(simp(disch:=omega) only[lnB,Z6,Z9]<;>omega)|(simp;done)|(simp<;>omega)))|(exact X9 (by first|omega|(simp(disch:=omega) only[lnB,Z6,Z9]<;>omega)|(simp;done)|(simp<;>omega)))|(exact Zc _ (h:= .rows _ _) (Zb _))|(exact Zc _ (h:= .rows _ _) (Zh _))|(exact congrArg (Hp.rows _) (by rfl))|((conv=>whnf);refine⟨?_,?_⟩)|rfl)))
    ·
     rw[up1];conv=>whnf
     repeat'((first|refine DRAWN.of (id:=13) Z1 mixed Z50 (by kernel_rfl) ?_|refine ADD.mk (fun _ _=>?_)|refine AD ?_|refine FORK.mk ?_ ?_|(refine NEED.mk ⟨by decide,by decide,rfl⟩ ?_;conv=>whnf)|(refine NEED.mk ⟨Ve _,(JH ps ps.length).ok⟩ ?_;conv=>whnf)|refine AU ?_|(refine IW ?_ ?_<;>intro h<;>try(exfalso;omega)))<;>conv=>whnf)
     refine FIND.mk (fun idx v hf=>?_) (fun hf=>?_)
     ·obtain⟨i0,hi0,rfl,hto⟩:=Z1k hf;conv=>whnf
      repeat'((first|(refine GET.at (row:=XC (ps[i0]'(by omega))) (Z3L (by omega) (by omega)) ?_;conv=>whnf)|(refine NEED.mk ⟨by decide,by decide,rfl⟩ ?_;conv=>whnf)|refine AU ?_|(refine IW ?_ ?_<;>intro h<;>try(exfalso;omega)))<;>conv=>whnf)
      ·have hn:=WL (t:=q.p) (by omega) hto;refine⟨2,by omega,by omega,?_⟩;rw[up2,hn];conv=>whnf
       (refine GOES.cutting h0 rfl rfl rfl (by(repeat'(first|(refine Zm rfl ?_ ?_)|exact Zf (Zb _)|exact Z7 (Zb _)|exact Zf (Zh _)|exact Z7 (Zh _)|exact ZV (Zy _ _)|rfl))) ?_ ?_<;>(repeat'(first|(with_reducible rfl)|exact trivial|(exact YY rfl (by first|omega|(simp(disch:=omega) only[lnB,Z6,Z9]<;>omega)|(simp;done)|(simp<;>omega)))|(exact congrArg (SV.int _) (by first|omega|(simp(disch:=omega) only[lnB,Z6,Z9]<;>omega)|(simp;done)|(simp<;>omega)))|(exact Yr (by first|omega|(simp(disch:=omega) only[lnB,Z6,Z9]<;>omega)|(simp;done)|(simp<;>omega)))|(exact X9 (by first|omega|(simp(disch:=omega) only[lnB,Z6,Z9]<;>omega)|(simp;done)|(simp<;>omega)))|(exact Zc _ (h:= .rows _ _) (Zb _))|(exact Zc _ (h:= .rows _ _) (Zh _))|(exact congrArg (Hp.rows _) (by rfl))|((conv=>whnf);refine⟨?_,?_⟩)|rfl)))
      ·have hn:=Uu (ps:=ps) (t:=q.p) (by omega);refine⟨2,by omega,by omega,?_⟩;rw[up2,hn];conv=>whnf
       (refine GOES.cutting h0 rfl rfl rfl (by(repeat'(first|(refine Zm rfl ?_ ?_)|exact Zf (Zb _)|exact Z7 (Zb _)|exact Zf (Zh _)|exact Z7 (Zh _)|exact ZV (Zy _ _)|rfl))) ?_ ?_<;>(repeat'(first|(with_reducible rfl)|exact trivial|(exact YY rfl (by first|omega|(simp(disch:=omega) only[lnB,Z6,Z9]<;>omega)|(simp;done)|(simp<;>omega)))|(exact congrArg (SV.int _) (by first|omega|(simp(disch:=omega) only[lnB,Z6,Z9]<;>omega)|(simp;done)|(simp<;>omega)))|(exact Yr (by first|omega|(simp(disch:=omega) only[lnB,Z6,Z9]<;>omega)|(simp;done)|(simp<;>omega)))|(exact X9 (by first|omega|(simp(disch:=omega) only[lnB,Z6,Z9]<;>omega)|(simp;done)|(simp<;>omega)))|(exact Zc _ (h:= .rows _ _) (Zb _))|(exact Zc _ (h:= .rows _ _) (Zh _))|(exact congrArg (Hp.rows _) (by rfl))|((conv=>whnf);refine⟨?_,?_⟩)|rfl)))
     ·have hto:=Z51 hf;have hn:=Uv (t:=q.p) hto;conv=>whnf
      repeat'((first|(refine NEED.mk ⟨by decide,by decide,rfl⟩ ?_;conv=>whnf)|refine AU ?_|(refine IW ?_ ?_<;>intro h<;>try(exfalso;omega)))<;>conv=>whnf)
      refine⟨2,by omega,by omega,?_⟩;rw[up2,hn];conv=>whnf
      (refine GOES.cutting h0 rfl rfl rfl (by(repeat'(first|(refine Zm rfl ?_ ?_)|exact Zf (Zb _)|exact Z7 (Zb _)|exact Zf (Zh _)|exact Z7 (Zh _)|exact ZV (Zy _ _)|rfl))) ?_ ?_<;>(repeat'(first|(with_reducible rfl)|exact trivial|(exact YY rfl (by first|omega|(simp(disch:=omega) only[lnB,Z6,Z9]<;>omega)|(simp;done)|(simp<;>omega)))|(exact congrArg (SV.int _) (by first|omega|(simp(disch:=omega) only[lnB,Z6,Z9]<;>omega)|(simp;done)|(simp<;>omega)))|(exact Yr (by first|omega|(simp(disch:=omega) only[lnB,Z6,Z9]<;>omega)|(simp;done)|(simp<;>omega)))|(exact X9 (by first|omega|(simp(disch:=omega) only[lnB,Z6,Z9]<;>omega)|(simp;done)|(simp<;>omega)))|(exact Zc _ (h:= .rows _ _) (Zb _))|(exact Zc _ (h:= .rows _ _) (Zh _))|(exact congrArg (Hp.rows _) (by rfl))|((conv=>whnf);refine⟨?_,?_⟩)|rfl)))
    ·
     rw[up2];conv=>whnf
     repeat'((first|refine DRAWN.of (id:=13) Z1 mixed Z50 (by kernel_rfl) ?_|refine ADD.mk (fun _ _=>?_)|refine AD ?_|refine FORK.mk ?_ ?_|(refine NEED.mk ⟨by decide,by decide,rfl⟩ ?_;conv=>whnf)|(refine NEED.mk ⟨Ve _,(JH ps ps.length).ok⟩ ?_;conv=>whnf)|refine AU ?_|(refine IW ?_ ?_<;>intro h<;>try(exfalso;omega)))<;>conv=>whnf)
     refine FIND.mk (fun idx v hf=>?_) (fun hf=>?_)
     ·obtain⟨i0,hi0,rfl,hto⟩:=Z1k hf;conv=>whnf
      repeat'((first|(refine GET.at (row:=XC (ps[i0]'(by omega))) (Z3L (by omega) (by omega)) ?_;conv=>whnf)|(refine NEED.mk ⟨by decide,by decide,rfl⟩ ?_;conv=>whnf)|refine AU ?_|(refine IW ?_ ?_<;>intro h<;>try(exfalso;omega)))<;>conv=>whnf)
      ·have hn:=WL (t:=q.o) (by omega) hto;refine⟨3,by omega,by omega,?_⟩;rw[up3,hn];conv=>whnf
       (refine GOES.cutting h0 rfl rfl rfl (by(repeat'(first|(refine Zm rfl ?_ ?_)|exact Zf (Zb _)|exact Z7 (Zb _)|exact Zf (Zh _)|exact Z7 (Zh _)|exact ZV (Zy _ _)|rfl))) ?_ ?_<;>(repeat'(first|(with_reducible rfl)|exact trivial|(exact YY rfl (by first|omega|(simp(disch:=omega) only[lnB,Z6,Z9]<;>omega)|(simp;done)|(simp<;>omega)))|(exact congrArg (SV.int _) (by first|omega|(simp(disch:=omega) only[lnB,Z6,Z9]<;>omega)|(simp;done)|(simp<;>omega)))|(exact Yr (by first|omega|(simp(disch:=omega) only[lnB,Z6,Z9]<;>omega)|(simp;done)|(simp<;>omega)))|(exact X9 (by first|omega|(simp(disch:=omega) only[lnB,Z6,Z9]<;>omega)|(simp;done)|(simp<;>omega)))|(exact Zc _ (h:= .rows _ _) (Zb _))|(exact Zc _ (h:= .rows _ _) (Zh _))|(exact congrArg (Hp.rows _) (by rfl))|((conv=>whnf);refine⟨?_,?_⟩)|rfl)))
      ·have hn:=Uu (ps:=ps) (t:=q.o) (by omega);refine⟨3,by omega,by omega,?_⟩;rw[up3,hn];conv=>whnf
       (refine GOES.cutting h0 rfl rfl rfl (by(repeat'(first|(refine Zm rfl ?_ ?_)|exact Zf (Zb _)|exact Z7 (Zb _)|exact Zf (Zh _)|exact Z7 (Zh _)|exact ZV (Zy _ _)|rfl))) ?_ ?_<;>(repeat'(first|(with_reducible rfl)|exact trivial|(exact YY rfl (by first|omega|(simp(disch:=omega) only[lnB,Z6,Z9]<;>omega)|(simp;done)|(simp<;>omega)))|(exact congrArg (SV.int _) (by first|omega|(simp(disch:=omega) only[lnB,Z6,Z9]<;>omega)|(simp;done)|(simp<;>omega)))|(exact Yr (by first|omega|(simp(disch:=omega) only[lnB,Z6,Z9]<;>omega)|(simp;done)|(simp<;>omega)))|(exact X9 (by first|omega|(simp(disch:=omega) only[lnB,Z6,Z9]<;>omega)|(simp;done)|(simp<;>omega)))|(exact Zc _ (h:= .rows _ _) (Zb _))|(exact Zc _ (h:= .rows _ _) (Zh _))|(exact congrArg (Hp.rows _) (by rfl))|((conv=>whnf);refine⟨?_,?_⟩)|rfl)))
     ·have hto:=Z51 hf;have hn:=Uv (t:=q.o) hto;conv=>whnf
      repeat'((first|(refine NEED.mk ⟨by decide,by decide,rfl⟩ ?_;conv=>whnf)|refine AU ?_|(refine IW ?_ ?_<;>intro h<;>try(exfalso;omega)))<;>conv=>whnf)
      refine⟨3,by omega,by omega,?_⟩;rw[up3,hn];conv=>whnf
      (refine GOES.cutting h0 rfl rfl rfl (by(repeat'(first|(refine Zm rfl ?_ ?_)|exact Zf (Zb _)|exact Z7 (Zb _)|exact Zf (Zh _)|exact Z7 (Zh _)|exact ZV (Zy _ _)|rfl))) ?_ ?_<;>(repeat'(first|(with_reducible rfl)|exact trivial|(exact YY rfl (by first|omega|(simp(disch:=omega) only[lnB,Z6,Z9]<;>omega)|(simp;done)|(simp<;>omega)))|(exact congrArg (SV.int _) (by first|omega|(simp(disch:=omega) only[lnB,Z6,Z9]<;>omega)|(simp;done)|(simp<;>omega)))|(exact Yr (by first|omega|(simp(disch:=omega) only[lnB,Z6,Z9]<;>omega)|(simp;done)|(simp<;>omega)))|(exact X9 (by first|omega|(simp(disch:=omega) only[lnB,Z6,Z9]<;>omega)|(simp;done)|(simp<;>omega)))|(exact Zc _ (h:= .rows _ _) (Zb _))|(exact Zc _ (h:= .rows _ _) (Zh _))|(exact congrArg (Hp.rows _) (by rfl))|((conv=>whnf);refine⟨?_,?_⟩)|rfl)))
    ·
     rw[up3];conv=>whnf
     repeat'((first|refine DRAWN.of (id:=13) Z1 mixed Z50 (by kernel_rfl) ?_|refine ADD.mk (fun _ _=>?_)|refine AD ?_|refine FORK.mk ?_ ?_|(refine NEED.mk ⟨by decide,by decide,rfl⟩ ?_;conv=>whnf)|(refine NEED.mk ⟨Ve _,(JH ps ps.length).ok⟩ ?_;conv=>whnf)|refine AU ?_|(refine IW ?_ ?_<;>intro h<;>try(exfalso;omega)))<;>conv=>whnf)
     refine FIND.mk (fun idx v hf=>?_) (fun hf=>?_)
     ·obtain⟨i0,hi0,rfl,hto⟩:=Z1k hf;conv=>whnf
      repeat'((first|(refine GET.at (row:=XC (ps[i0]'(by omega))) (Z3L (by omega) (by omega)) ?_;conv=>whnf)|(refine NEED.mk ⟨by decide,by decide,rfl⟩ ?_;conv=>whnf)|refine AU ?_|(refine IW ?_ ?_<;>intro h<;>try(exfalso;omega)))<;>conv=>whnf)
      ·have hn:=WL (t:=q.g) (by omega) hto;refine⟨4,by omega,by omega,?_⟩;rw[up4,hn];conv=>whnf
       (refine GOES.cutting h0 rfl rfl rfl (by(repeat'(first|(refine Zm rfl ?_ ?_)|exact Zf (Zb _)|exact Z7 (Zb _)|exact Zf (Zh _)|exact Z7 (Zh _)|exact ZV (Zy _ _)|rfl))) ?_ ?_<;>(repeat'(first|(with_reducible rfl)|exact trivial|(exact YY rfl (by first|omega|(simp(disch:=omega) only[lnB,Z6,Z9]<;>omega)|(simp;done)|(simp<;>omega)))|(exact congrArg (SV.int _) (by first|omega|(simp(disch:=omega) only[lnB,Z6,Z9]<;>omega)|(simp;done)|(simp<;>omega)))|(exact Yr (by first|omega|(simp(disch:=omega) only[lnB,Z6,Z9]<;>omega)|(simp;done)|(simp<;>omega)))|(exact X9 (by first|omega|(simp(disch:=omega) only[lnB,Z6,Z9]<;>omega)|(simp;done)|(simp<;>omega)))|(exact Zc _ (h:= .rows _ _) (Zb _))|(exact Zc _ (h:= .rows _ _) (Zh _))|(exact congrArg (Hp.rows _) (by rfl))|((conv=>whnf);refine⟨?_,?_⟩)|rfl)))
      ·have hn:=Uu (ps:=ps) (t:=q.g) (by omega);refine⟨4,by omega,by omega,?_⟩;rw[up4,hn];conv=>whnf
       (refine GOES.cutting h0 rfl rfl rfl (by(repeat'(first|(refine Zm rfl ?_ ?_)|exact Zf (Zb _)|exact Z7 (Zb _)|exact Zf (Zh _)|exact Z7 (Zh _)|exact ZV (Zy _ _)|rfl))) ?_ ?_<;>(repeat'(first|(with_reducible rfl)|exact trivial|(exact YY rfl (by first|omega|(simp(disch:=omega) only[lnB,Z6,Z9]<;>omega)|(simp;done)|(simp<;>omega)))|(exact congrArg (SV.int _) (by first|omega|(simp(disch:=omega) only[lnB,Z6,Z9]<;>omega)|(simp;done)|(simp<;>omega)))|(exact Yr (by first|omega|(simp(disch:=omega) only[lnB,Z6,Z9]<;>omega)|(simp;done)|(simp<;>omega)))|(exact X9 (by first|omega|(simp(disch:=omega) only[lnB,Z6,Z9]<;>omega)|(simp;done)|(simp<;>omega)))|(exact Zc _ (h:= .rows _ _) (Zb _))|(exact Zc _ (h:= .rows _ _) (Zh _))|(exact congrArg (Hp.rows _) (by rfl))|((conv=>whnf);refine⟨?_,?_⟩)|rfl)))
     ·have hto:=Z51 hf;have hn:=Uv (t:=q.g) hto;conv=>whnf
      repeat'((first|(refine NEED.mk ⟨by decide,by decide,rfl⟩ ?_;conv=>whnf)|refine AU ?_|(refine IW ?_ ?_<;>intro h<;>try(exfalso;omega)))<;>conv=>whnf)
      refine⟨4,by omega,by omega,?_⟩;rw[up4,hn];conv=>whnf
      (refine GOES.cutting h0 rfl rfl rfl (by(repeat'(first|(refine Zm rfl ?_ ?_)|exact Zf (Zb _)|exact Z7 (Zb _)|exact Zf (Zh _)|exact Z7 (Zh _)|exact ZV (Zy _ _)|rfl))) ?_ ?_<;>(repeat'(first|(with_reducible rfl)|exact trivial|(exact YY rfl (by first|omega|(simp(disch:=omega) only[lnB,Z6,Z9]<;>omega)|(simp;done)|(simp<;>omega)))|(exact congrArg (SV.int _) (by first|omega|(simp(disch:=omega) only[lnB,Z6,Z9]<;>omega)|(simp;done)|(simp<;>omega)))|(exact Yr (by first|omega|(simp(disch:=omega) only[lnB,Z6,Z9]<;>omega)|(simp;done)|(simp<;>omega)))|(exact X9 (by first|omega|(simp(disch:=omega) only[lnB,Z6,Z9]<;>omega)|(simp;done)|(simp<;>omega)))|(exact Zc _ (h:= .rows _ _) (Zb _))|(exact Zc _ (h:= .rows _ _) (Zh _))|(exact congrArg (Hp.rows _) (by rfl))|((conv=>whnf);refine⟨?_,?_⟩)|rfl)))
   ·obtain rfl:j=4:=by omega
    rw[up4];conv=>whnf
    repeat'((first|(refine NEED.mk (Yc 224 rfl rfl (by simp) (by simp) (by omega)) ?_;conv=>whnf)|refine AU ?_|(refine IW ?_ ?_<;>intro h<;>try(exfalso;omega)))<;>conv=>whnf)
    refine⟨i+1,by omega,by omega,?_⟩;rw[hs];conv=>whnf
    (refine GOES.keeping h0 [2,3,4,5,6,10] rfl rfl rfl (by(repeat'(first|(refine Zm rfl ?_ ?_)|exact Zf (Zb _)|exact Z7 (Zb _)|exact ZV (Zy _ _)|rfl))) ?_ ?_<;>(repeat'(first|(exact(Zc _ (h:= .mp _) (Zy _ _)).symm)|(with_reducible rfl)|exact trivial|(exact YY rfl (by first|omega|(simp(disch:=omega) only[lnB,Z6,Z9]<;>omega)|(simp;done)|(simp<;>omega)))|(exact congrArg (SV.int _) (by first|omega|(simp(disch:=omega) only[lnB,Z6,Z9]<;>omega)|(simp;done)|(simp<;>omega)))|(exact Yr (by first|omega|(simp(disch:=omega) only[lnB,Z6,Z9]<;>omega)|(simp;done)|(simp<;>omega)))|(exact X9 (by first|omega|(simp(disch:=omega) only[lnB,Z6,Z9]<;>omega)|(simp;done)|(simp<;>omega)))|(exact(Zc _ (h:= .rows _ _) (Zb _)).symm)|(exact(Zc _ (h:= .rows _ _) (Zb _)).trans (Zc _ (h:= .rows _ _) (Zb _)).symm)|(exact X7 (Zb _) (by(simp[List.take_of_length_le,XX,Zl,XB])))|((conv=>whnf);refine⟨?_,?_⟩)|(simp only[ren,renB];done)|rfl)))
  ·have hie:i=l.length:=by omega
   subst hie;rw[List.take_length]at hli⊢;generalize l.map (XB ps)=out at*;have hT:=Z3D out [] none (by unfold Xf;omega);rw[List.append_nil]at hT;repeat'((first|refine AU ?_|(refine IW ?_ ?_<;>intro h<;>try(exfalso;omega)))<;>conv=>whnf)
   refine CALL.aA [7] (hT) ?_;rintro r O nx ⟨j,hj,rfl,rfl,rfl⟩;conv=>whnf
   refine FIN.aA h0 [8] (.sl (.loc 2) 0 16 (setL ZH out).length (some (setL ZH out).length)) [(2, .rows 16 ((setL ZH out++List.replicate j Yv).map Zl))] ?_;exact⟨j,by omega,rfl,rfl,rfl⟩
end Go.Proofs.YtbfbokdccdagkaaGreatDoor
