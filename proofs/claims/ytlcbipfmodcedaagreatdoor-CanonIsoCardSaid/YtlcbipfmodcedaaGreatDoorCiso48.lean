/- Part 48: TwinB. Conditions: as each part says. -/
import Derived.Test.YtlcbipfmodcedaaGreatDoorCiso26
import Derived.Test.YtlcbipfmodcedaaGreatDoorCiso45
import Derived.Test.YtlcbipfmodcedaaGreatDoorCiso47
set_option linter.unusedVariables false
set_option linter.unusedSimpArgs false
set_option maxRecDepth 20000
set_option maxHeartbeats 8000000
namespace Go.Proofs.YtlcbipfmodcedaaGreatDoor
open Go.Sx Go.Our Go.Lib
section
variable {a b:List Qd}{ps:List Pr}
theorem TA{l:List Qd}{s:LB}(h:s∈ZR l):s∈Z0 l:=(Vc _ _).2 h
theorem eA.twin(h:eA a b ps):∃p,Go.Our.Twin (Z0 a) (Z0 b) a b p:=by
 have hto:∀s∈Z0 a,∃u,(s,u)∈ps/\uW ps s=some u:=fun s hs=>U3 h.fs hs;have Qo:(ps.map Prod.snd).Nodup:=h.sn.symm.nodup (Yk b);have hfn:(ps.map Prod.fst).Nodup:=h.fs.symm.nodup (Yk a);have hu:∀{s u:LB},(s,u)∈ps->u∈Z0 b:=fun hp=>h.sn.mem_iff.1 (zM.2 ⟨_,hp,rfl⟩)
 have inj:∀{s t u:LB},(s,u)∈ps->(t,u)∈ps->s=t:=fun{s t u} h1 h2=>by
  obtain⟨i,hi,e1⟩:=yg.1 h1;obtain⟨j,hj,e2⟩:=yg.1 h2;have:(ps.map Prod.snd)[i]'(by simpa using hi)=(ps.map Prod.snd)[j]'(by simpa using hj):=by simp[e1,e2]
  have:=(yZ Qo).1 this;subst this;rw[e1]at e2;exact(Prod.mk.inj e2).1
 have nm:∀x,x< (Z0 a).length->∃u,((Z0 a).getD x [],u)∈ps/\uW ps ((Z0 a).getD x [])=some u:=fun x hx=>by
  rw[J5 hx];exact hto _ (zq hx)
 refine⟨fun x=>(Z0 b).idxOf ((uW ps ((Z0 a).getD x [])).getD []),?_,⟨fun x hx=>?_,fun x y hx hy e=>?_⟩,Yk a,Yk b,fun s hs=>TA hs,?_⟩
 .have h1:=h.fs.length_eq;have h2:=h.sn.length_eq;rw[zj]at h1 h2;omega
 .obtain⟨u,h1,h2⟩:=nm x hx;rw[h2,Option.getD_some];have h3:=zy (hu h1);have h4:=h.fs.length_eq;have h5:=h.sn.length_eq;rw[zj]at h4 h5;omega
 .obtain⟨u,h1,h2⟩:=nm x hx;obtain⟨v,h3,h4⟩:=nm y hy;rw[h2,h4,Option.getD_some,Option.getD_some]at e
  have e2:u=v:=by
   have a1:=zV (zy (hu h1));have a2:=zV (zy (hu h3));rw[<-a1,<-a2];simp only[e]
  subst e2;have e3:=inj h1 h3;rw[J5 hx,J5 hy]at e3;exact(yZ (Yk a)).1 e3
 .refine h.ay.trans (.of_eq (zZ fun q hq=>?_));refine W4 (f:=ZT ps) (g:=oI (Z0 a) (Z0 b) _) fun t ht=>?_;by_cases hk:t.k=2
  .have hm:=YB hq ht hk;obtain⟨u,h1,h2⟩:=hto _ hm;have hi:=zy hm;rw[JO hk h2];unfold oI;rw[z8 hk];dsimp only;rw[J5 hi,zV hi,h2,Option.getD_some];have h3:=zy (hu h1);rw[J5 h3,zV h3]
  .rw[UA hk];unfold oI;rw[z6 hk]
theorem TC{l:List Qd}(h:j4 l):jf l=if 4096< (Z0 l).length then 2 else 0:=by
 unfold jf;rw[BW h];by_cases e:4096< (Z0 l).length
 rw[z8 ⟨rfl,e⟩,z8 e];rw[z6 (fun h=>e h.2),z6 e]
theorem TD{l:List Qd}{n:Int}(h:uX l n=0):∃c,c∈(ZU (Z0 l) l (qu n)).2/\Js (ZH (Z0 l) l) (ZU (Z0 l) l (qu n)).2=some (ZH (Z0 l) l c,c)/\jP l n=ZH (Z0 l) l c:=by
 have hs:(ZU (Z0 l) l (qu n)).1<=qu n:=by
  unfold uX at h;split at h
  exact absurd h ‹_›
  .split at h
   cases h
   omega
 obtain⟨c,h1,h2⟩:=EA (ZH (Z0 l) l) (T6 hs);exact⟨c,h1,h2,by unfold jP;rw[h2]⟩
theorem eA.can(h:eA a b ps)(n:Int):uX b n=uX a n/\(uX a n=0->jP b n=jP a n):=by
 obtain⟨p,T⟩:=h.twin;obtain⟨s1,s2⟩:=T.search (qu n)
 have hE:uX b n=uX a n:=by
  unfold uX;rw[TC h.va,TC h.vb,T.len];by_cases e:qu n< (ZU (Z0 a) a (qu n)).1
  rw[z8 e,z8 (show qu n< (ZU (Z0 b) b (qu n)).1 by omega)];rw[z6 e,z6 (show ¬qu n< (ZU (Z0 b) b (qu n)).1 by omega)]
 refine⟨hE,fun h0=>?_⟩;obtain⟨c,_,h1,h2⟩:=TD h0;obtain⟨d,_,h3,h4⟩:=TD (hE.trans h0)
 have hs:(ZU (Z0 a) a (qu n)).1<=qu n:=by
  unfold uX at h0;split at h0
  exact absurd h0 ‹_›
  .split at h0
   cases h0
   omega
 rw[h4,h2];exact s2 hs _ _ _ _ h1 h3
theorem ZgT{A:List LB}{c:List Int}:(kG A c).map Prod.fst=A:=by
 apply yy (by rw[zj,Go.Our.qt]);intro i h1 h2;rw[y9,iQ h2 (by rw[Go.Our.qt];exact h2)]
theorem TE{l:List Qd}{c:List Int}(d:j4 l)(h4:(Z0 l).length<=4096)(hL:qz (Z0 l) c):eA l (ZH (Z0 l) l c) (kG (Z0 l) c):=by
 have hr:=ZgM hL (Yk l) d.cc (fun s hs=>TA hs);rw[<-hr];have gh:=hL.cn
 have m:∀z,z<c.length->0<=c.getD z 0/\c.getD z 0<4096:=fun z hz=>by
  rw[J5 hz];have:=hL.cs _ (zq hz);omega
 refine ZiF d (.of_eq ZgT) ?_ fun u hu=>?_
 .rw[xR,yR];intro i j hi hj hij e;rw[zj,Go.Our.qt]at hi hj;rw[y9,y9,iQ hi (by rw[Go.Our.qt];exact hi),iQ hj (by rw[Go.Our.qt];exact hj)]at e;dsimp only at e;unfold bJ at e;injection e with _ e;have e5:=HJ e;have c1:=(m i (by omega)).1;have c2:=(m j (by omega)).1;have:=Tb hL (show i<c.length by omega) (show j<c.length by omega) (by omega);omega
 .obtain⟨q,hq,rfl⟩:=zM.1 hu;unfold kG at hq;obtain⟨x,hx,rfl⟩:=zM.1 hq;have hx:=zY.1 hx;have:=(m x (by omega));have hd:(decDigits (c.getD x 0).toNat).length<=3+1:=Ql 3 _ (by omega);exact⟨by show(99::decDigits (c.getD x 0).toNat).length<=65536;rw[List.length_cons];omega,Zja _⟩
end
end Go.Proofs.YtlcbipfmodcedaaGreatDoor
