/- Part 26: FindT, FindU, FindV. Conditions: as each part says. -/
import Derived.Test.YtlcbipfmodcedaaGreatDoorCiso22
import Derived.Test.YtlcbipfmodcedaaGreatDoorCiso23
import Derived.Test.YtlcbipfmodcedaaGreatDoorCiso25
set_option linter.unusedVariables false
set_option linter.unusedSimpArgs false
set_option maxRecDepth 20000
set_option maxHeartbeats 8000000
namespace Go.Proofs.YtlcbipfmodcedaaGreatDoor
open Go.Sx Go.Our
structure Maps(a b:List Qd)(zs:List Nat):Prop where
 hv:Jf a b=0
 len:zs.length=(Z0 a).length
 lb:(Z0 b).length=(Z0 a).length
 nd:zs.Nodup
 lt:∀z∈zs,z< (Z0 a).length
 ay:b.Perm (a.map (jv (uG (Z0 a) (Z0 b) zs)))
theorem Yk(l:List Qd):(Z0 l).Nodup:=Yb kr (J7 kr _)
theorem GH{ps:List Pr}{t:Tm}(h:¬t.k=2):qG ps t=t:=z6 h
theorem GI(ps:List Pr)(t:Tm):(qG ps t).k=t.k:=by unfold qG;split<;>rfl
theorem RU(ps:List Pr)(q:Qd):Zv (jv ps q)=(Zv q).map (qG ps):=rfl
theorem Uz{l:List Nat}{i:Nat}(h:i<l.length):l.getD i 0=l[i]:=by rw[zi,z1 h];rfl
theorem Zek{A B:List LB}(hA:A.Nodup){zs:List Nat}{k:Nat}{s:LB}(hs:(uW (uG A B (zs.take k)) s).isSome=true):uW (uG A B zs) s=uW (uG A B (zs.take k)) s:=by
 by_cases hm:s∈A
 .have hi:=zy hm;by_cases hk:A.idxOf s< (zs.take k).length
  .have hk2:A.idxOf s<zs.length:=by rw[zA]at hk;omega
   have e1:=iE (B:=B) hA hk hi;have e2:=iE (B:=B) hA hk2 hi;rw[zV hi]at e1 e2;rw[e1,e2,vv]
  .rw[E1]at hs;cases hs
   .intro i hi2 rH e;rw[<-e,hA.idxOf_getElem i hi2]at hk;omega
 .rw[E1]at hs;cases hs
  exact fun i hi _ e=>hm (e▸zq hi)
theorem RV{A B:List LB}(hA:A.Nodup){zs:List Nat}{k:Nat}{q:Qd}(hq:dh (uG A B (zs.take k)) q=true):jv (uG A B (zs.take k)) q=jv (uG A B zs) q:=by
 unfold dh at hq;rw[zN]at hq
 have k1:∀t∈Zv q,qG (uG A B (zs.take k)) t=qG (uG A B zs) t:=fun t ht=>by
  unfold qG;by_cases hk:t.k=2
  rw[z8 hk,z8 hk,<-Zek hA (k:=k) (zs:=zs) (by simpa[hk]using hq t ht)];rw[z6 hk,z6 hk]
 unfold jv;rw[k1 q.s (by simp[Zv]),k1 q.p (by simp[Zv]),k1 q.o (by simp[Zv]),k1 q.g (by simp[Zv])]
section
variable {a b:List Qd}{zs:List Nat}(h:Maps a b zs)
include h
theorem Maps.yes{q:Qd}(hq:q∈a){t:Tm}(ht:t∈Zv q)(hk:t.k=2):∃i,∃(hi:i<zs.length) (hA:i< (Z0 a).length) (hB:zs[i]< (Z0 b).length),t.t=(Z0 a)[i]/\wm (wq 0 (Z0 a)) t=(i:Int)/\qG (uG (Z0 a) (Z0 b) zs) t={t with t:=(Z0 b)[zs[i]]}/\wm (wq (Z0 a).length (Z0 b)) (qG (uG (Z0 a) (Z0 b) zs) t)=(((Z0 a).length+zs[i]:Nat):Int):=by
 have hm:=YB hq ht hk;have hA:=zy hm;have hi:(Z0 a).idxOf t.t<zs.length:=by rw[h.len];exact hA
 have hB:zs[(Z0 a).idxOf t.t]< (Z0 b).length:=by rw[h.lb];exact h.lt _ (zq hi)
 have hr:qG (uG (Z0 a) (Z0 b) zs) t={t with t:=(Z0 b)[zs[(Z0 a).idxOf t.t]]}:=by
  have:=iE (B:=Z0 b) (Yk a) hi hA;rw[zV hA]at this;unfold qG;rw[z8 hk,this,Option.getD_some,zi,z1 hB];rfl
 refine⟨_,hi,hA,hB,(zV hA).symm,?_,hr,?_⟩;unfold wm;rw[z8 hk,rW hm];omega
 .rw[hr];unfold wm;rw[z8 hk,rW (zq hB)];show((Z0 a).length:Int)+(((Z0 b).idxOf (Z0 b)[zs[(Z0 a).idxOf t.t]]:Nat):Int)=_
  rw[(Yk b).idxOf_getElem _ hB];omega
def dm(zs:List Nat)(n:Nat)(cl:List Int):Prop:=∀i,i<n->cl.getD i 0=cl.getD (n+zs.getD i 0) 0
theorem Maps.Ef{cl:List Int}(hc:dm zs (Z0 a).length cl){i:Nat}(hi:i< (Z0 a).length){q:Qd}(hq:q∈a){t:Tm}(ht:t∈Zv q):
 q9 cl ((Z0 a).length+zs.getD i 0) (wm (wq (Z0 a).length (Z0 b)) (qG (uG (Z0 a) (Z0 b) zs) t)) (qG (uG (Z0 a) (Z0 b) zs) t)=q9 cl i (wm (wq 0 (Z0 a)) t) t:=by
 by_cases hk:t.k=2
 .obtain⟨j,hj,hA,hB,h1,h2,h3,h4⟩:=h.yes hq ht hk;have bS:i<zs.length:=by rw[h.len];exact hi
  rw[h4,h2,Uz bS];unfold q9;rw[z6 (show ¬(((Z0 a).length+zs[j]:Nat):Int)<0 by omega),z6 (show ¬(j:Int)<0 by omega)];by_cases e:j=i
  subst e;rw[z8 rfl,z8 rfl]
  .have hne:¬zs[j]=zs[i]:=fun h5=>by
    have h6:=h.nd.idxOf_getElem j hj;rw[h5,h.nd.idxOf_getElem i bS]at h6;exact e h6.symm
   rw[z6 (show ¬(((Z0 a).length+zs[j]:Nat):Int)=(((Z0 a).length+zs[i]:Nat):Int)by omega),z6 (show ¬(j:Int)=(i:Int)by omega),Int.toNat_natCast,Int.toNat_natCast];have:=hc j hA;rw[Uz hj]at this;rw[this]
 .rw[GH hk];have e1:∀f:LB->Int,wm f t= -1:=fun f=>z6 hk;rw[e1,e1];unfold q9;rw[z8 (by omega),z8 (by omega)]
theorem Maps.sg{cl:List Int}(hc:dm zs (Z0 a).length cl){i:Nat}(hi:i< (Z0 a).length){q:Qd}(hq:q∈a):
 aq cl ((Z0 a).length+zs.getD i 0) (gP (wq (Z0 a).length (Z0 b)) (jv (uG (Z0 a) (Z0 b) zs) q))=aq cl i (gP (wq 0 (Z0 a)) q):=by
 unfold aq gP jv;simp only;rw[h.Ef hc hi hq (t:=q.s) (by simp[Zv]),h.Ef hc hi hq (t:=q.p) (by simp[Zv]),h.Ef hc hi hq (t:=q.o) (by simp[Zv]),h.Ef hc hi hq (t:=q.g) (by simp[Zv])]
theorem Maps.own{i:Nat}(hi:i< (Z0 a).length){q:Qd}(hq:q∈a):((((Z0 a).length+zs.getD i 0:Nat):Int)∈wE (wq (Z0 a).length (Z0 b)) (jv (uG (Z0 a) (Z0 b) zs) q))<->((i:Int)∈wE (wq 0 (Z0 a)) q):=by
 have bS:i<zs.length:=by rw[h.len];exact hi
 rw[jJ,jJ,RU,Uz bS];have cw:∀(f:LB->Int) (t:Tm),t.k=2->wm f t=f t.t:=fun f t hk=>z8 hk;constructor
 .rintro⟨t',ht',hk,he⟩;obtain⟨t,ht,rfl⟩:=zM.1 ht';rw[GI]at hk;obtain⟨j,hj,hA,hB,h1,h2,h3,h4⟩:=h.yes hq ht hk;have e2:=cw (wq (Z0 a).length (Z0 b)) (qG (uG (Z0 a) (Z0 b) zs) t) (by rw[GI];exact hk);rw[<-e2,h4]at he;have hji:zs[j]=zs[i]:=by omega
  have h6:=h.nd.idxOf_getElem j hj;rw[hji,h.nd.idxOf_getElem i bS]at h6;subst h6;exact⟨t,ht,hk,by rw[<-cw (wq 0 (Z0 a)) t hk,h2]⟩
 .rintro⟨t,ht,hk,he⟩;obtain⟨j,hj,hA,hB,h1,h2,h3,h4⟩:=h.yes hq ht hk;rw[<-cw (wq 0 (Z0 a)) t hk,h2]at he;have hji:j=i:=by omega
  subst hji;exact⟨_,xu ht,by rw[GI];exact hk,by rw[<-cw (wq (Z0 a).length (Z0 b)) (qG (uG (Z0 a) (Z0 b) zs) t) (by rw[GI];exact hk),h4]⟩
theorem Maps.iG{cl:List Int}(hc:dm zs (Z0 a).length cl){i:Nat}(hi:i< (Z0 a).length):(Yj cl (wB a b) ((Z0 a).length+zs.getD i 0)).Perm (Yj cl (wB a b) i):=by
 have bS:i<zs.length:=by rw[h.len];exact hi
 have hx:(Z0 a).length+zs.getD i 0< (wB a b).length:=by rw[U1,h.lb,Uz bS];have:=h.lt _ (zq bS);omega
 have hg:(wB a b).getD ((Z0 a).length+zs.getD i 0) []=(b.filter fun q=>decide ((((Z0 a).length+zs.getD i 0:Nat):Int)∈wE (wq (Z0 a).length (Z0 b)) q)).map (gP (wq (Z0 a).length (Z0 b))):=by
  rw[<-RE (by omega) hx];generalize(Z0 a).length+zs.getD i 0=x at hx⊢;rw[zi,z1 hx];rfl
 unfold Yj;rw[E0 hi,hg,yq,yq];refine((h.ay.filter _).map _).trans ?_;rw[vo,yq]
 have e1:a.filter ((fun q=>decide ((((Z0 a).length+zs.getD i 0:Nat):Int)∈wE (wq (Z0 a).length (Z0 b)) q))∘jv (uG (Z0 a) (Z0 b) zs))=a.filter fun q=>decide ((i:Int)∈wE (wq 0 (Z0 a)) q):=by
  refine vS fun q hq=>?_;simp only[Function.comp_apply];rw[yh,yt,yt];exact h.own hi hq
 rw[e1];refine List.Perm.of_eq (zZ fun q hq=>?_);simp only[Function.comp_apply];exact h.sg hc hi (yY.1 hq).1
theorem Maps.next{cl:List Int}(hc:dm zs (Z0 a).length cl)(hp:∀c∈cl,0<=c)(hl:cl.length=(Z0 a).length+(Z0 b).length):dm zs (Z0 a).length (XM (XN cl (wB a b))):=by
 intro i hi;have bS:i<zs.length:=by rw[h.len];exact hi
 have hz:=h.lt _ (zq bS);have hk:kN cl (wB a b) i=kN cl (wB a b) ((Z0 a).length+zs.getD i 0):=(Bm hp _ _ _).2 ⟨hc i hi,(h.iG hc hi).symm⟩;have h1:i< (XN cl (wB a b)).length:=by rw[Gq,hl];omega
 have h2:(Z0 a).length+zs.getD i 0< (XN cl (wB a b)).length:=by rw[Gq,hl,h.lb,Uz bS];omega
 unfold XM;rw[zi,zi,z7,z7,z1 h1,z1 h2,BF,BF,hk]
theorem Maps.settle{cl:List Int}{ct:Int}{F:List Int}{c:Int}(hs:wR (wB a b) cl ct F c):dm zs (Z0 a).length cl->nM cl (wB a b)->dm zs (Z0 a).length F:=by
 induction hs with
 |stop _=>exact fun hc hw=>h.next hc (fun c hm=>(hw.cs c hm).1) (by rw[<-hw.len,U1])
 |go _ _ ih=>exact fun hc hw=>ih (h.next hc (fun c hm=>(hw.cs c hm).1) (by rw[<-hw.len,U1])) hw.next.1
theorem Maps.perm:zs.Perm (List.range (Z0 a).length):=
 (Bj h.nd (by rw[yw,h.len]) fun z hz=>zY.2 (h.lt z hz)).symm
theorem Maps.even{F:List Int}(hc:dm zs (Z0 a).length F)(hF:F.length=2*(Z0 a).length):Qs F (Z0 a).length:=by
 have h1:F.take (Z0 a).length=zs.map fun z=>F.getD ((Z0 a).length+z) 0:=by
  apply yy (by rw[zA,zj,h.len];omega);intro i hi hi2;rw[zj]at hi2;have rH:i< (Z0 a).length:=by rw[<-h.len];exact hi2
  have:=hc i rH;rw[Uz hi2]at this;rw[vv,y9,<-this,zi,z1 (by omega)];rfl
 have h2:F.drop (Z0 a).length=(List.range (Z0 a).length).map fun z=>F.getD ((Z0 a).length+z) 0:=by
  apply yy (by rw[zW,zj,yw];omega);intro i hi hi2;rw[zj,yw]at hi2;rw[List.getElem_drop,y9,yS,zi,z1 (by omega)];rfl
 intro k;rw[h1,h2];exact(h.perm.map _).count_eq k
theorem Maps.stat:E5 a b:=by
 obtain⟨dA,dB⟩:=Vv h.hv;refine⟨by rw[h.ay.length_eq,zj],h.lb.symm,?_⟩
 have hp:(qw b).Perm (qw a):=by
  unfold qw;refine(h.ay.filter _).trans ?_;rw[vo]
  have e1:a.filter ((fun q=>(Zv q).all fun t=>!decide (t.k=2))∘jv (uG (Z0 a) (Z0 b) zs))=a.filter fun q=>(Zv q).all fun t=>!decide (t.k=2):=by
   refine vS fun q hq=>?_;simp only[Function.comp_apply,RU,List.all_map];congr 1;funext t;simp only[Function.comp_apply,GI]
  rw[e1];refine List.Perm.of_eq ((zZ fun q hq=>?_).trans (List.map_id _));have hq:=(yY.1 hq).2;rw[zN]at hq;have hn:∀t∈Zv q,qG (uG (Z0 a) (Z0 b) zs) t=t:=fun t ht=>GH (by simpa using hq t ht);show jv _ q=q
  unfold jv;rw[hn q.s (by simp[Zv]),hn q.p (by simp[Zv]),hn q.o (by simp[Zv]),hn q.g (by simp[Zv])]
 have so:∀{l:List Qd},jr ZJ l->(qw l).Pairwise fun x y=>ZJ x y<=0:=fun hr=>(List.Pairwise.sublist List.filter_sublist hr).imp fun h=>by omega
 exact(Bi qO (so dB.cc) (so dA.cc) hp).symm
theorem Maps.path{F:List Int}(hc:dm zs (Z0 a).length F):Path (Z0 a).length (cQ F (Z0 a).length) (jt (Z0 a++Z0 b) (Z0 a).length b (wB a b)) [] zs (Z0 a).length:=by
 refine⟨xq,by simp[h.len],h.nd,h.lt,fun i hi _=>?_,fun k hk hk2=>?_⟩
 .unfold cQ;have:=hc i (by rw[<-h.len];exact hi);rw[Uz hi]at this;exact yA this
 .simp only[List.length_nil]at hk;have hl:(zs.take k).length=(k-1)+1:=by rw[zA];omega
  rw[RD (by rw[hl,<-h.len];omega) hl,vr,List.any_eq_false];intro q hq hf;unfold Gz at hf;simp only[zk,vr,yL]at hf;refine hf.2 ?_;rw[RV (Yk a) hf.1.2];exact h.ay.mem_iff.2 (xu hq)
theorem Maps.find{uf:Int}{ps:List Pr}{e:Int}(hF:kC a b uf ps e):(e=4/\ps=[]/\0< (Z0 a).length)\/
 (e=0/\∃r,ps=uG (Z0 a) (Z0 b) r/\r.length=(Z0 a).length/\(∀x∈r,x< (Z0 a).length)/\∀(i x y:Nat),(∀j:Nat,j<i->r[j]?=zs[j]?)->r[i]?=some x->zs[i]?=some y->x<=y):=by
 rcases hF with⟨h1,_⟩|⟨_,h1,_⟩|⟨_,_,F,c,hs,he⟩
 exact(h1 h.hv).elim;exact(h1 h.stat).elim
 .obtain⟨dA,dB⟩:=Vv h.hv;have hW:=GC dA dB;have hok:=hs.ok hW
  have hc0:dm zs (Z0 a).length (List.replicate ((Z0 a).length+(Z0 b).length) 0):=fun i hi=>by
   have bS:i<zs.length:=by rw[h.len];exact hi
   have:=h.lt _ (zq bS);rw[Uz bS,zi,zi,xk,xk,z8 (by omega),z8 (by rw[h.lb];omega)]
  have hinv:=h.settle hs hc0 hW;have au:F.length=2*(Z0 a).length:=by rw[hok.2.1,zT,h.lb];omega
  unfold iF at he;rw[z8 (h.even hinv au)]at he;have hp:=h.path hinv;split at he
  .rename_i r m hr;injection he with h1 h2;have bN:=BS (Z0 a).length [] (jG uf) List.nodup_nil (fun y hy=>by cases hy) hr;exact .inr ⟨h2,r,h1,by rw[bN.len];simp,bN.lt,RM _ _ _ hr zs hp⟩
  .rename_i m hr;exact(WQ _ _ _ hr zs hp).elim
  .rename_i hr;injection he with h1 h2;refine .inl ⟨h2,h1,?_⟩;rcases vm (Z0 a).length with h0|h0
   rw[h0]at hr;simp[XP]at hr;exact h0
end
end Go.Proofs.YtlcbipfmodcedaaGreatDoor
namespace Go.Proofs.YtlcbipfmodcedaaGreatDoor
open Go.Sx Go.Our
theorem BW{l:List Qd}(h:j4 l):(Yr l).2=0:=by
 have h1:∀(n i:Nat),l.length-i<=n->gl l i=none:=by
  intro n
  induction n with
  |zero=>intro i hi;exact Qi (by omega)
  |succ n ih=>
   intro i hi;by_cases hl:i<l.length
   .rw[G7 hl,z6 (by rw[h.ck _ (zq hl)];simp)];exact ih _ (by omega)
   exact Qi (by omega)
 have h2:∀(n i:Nat),l.length-i<=n->1<=i->oB l i=none:=by
  intro n
  induction n with
  |zero=>intro i hi _;exact G8 (by omega)
  |succ n ih=>
   intro i hi h1;by_cases hl:i<l.length
   .have:=Mv h.cc (i:=i-1) (j:=i) (by omega) hl;rw[Hv hl,z6 (by omega)];exact ih _ (by omega) (by omega)
   exact G8 (by omega)
 unfold Yr;rw[z6 (by have:=h.few;omega),h1 _ 0 (zn _),h2 _ 1 (zn _) (zn _)]
theorem RW{a b:List Qd}(dA:j4 a)(dB:j4 b):Jf a b=0:=by
 unfold Jf;rw[BW dA,BW dB];rfl
theorem BX{K:Type}[DecidableEq K]:∀{x l:List K},x.Nodup->l.Nodup->(∀z,z∈x<->z∈l)->x.Perm l
 | [],l,_,_,h=>by
   have:l=[]:=vn.2 fun z hz=>by simpa using(h z).2 hz
   rw[this]
 |z::x,l,hn,hl,h=>by
  have hn':=xb.1 hn;have hz:z∈l:=(h z).1 (zF ..);refine .trans (.cons z (BX hn'.2 (hl.erase z) fun w=>?_)) (List.perm_cons_erase hz).symm;rw[hl.mem_erase_iff,<-h w,zI];constructor
  exact fun hw=>⟨fun e=>hn'.1 (e▸hw), .inr hw⟩
  .rintro⟨h1,h2⟩;exact h2.resolve_left h1
theorem BZ{K J:Type}{f:K->J}{l:List K}(hl:l.Nodup)(hf:∀x∈l,∀y∈l,f x=f y->x=y):(l.map f).Nodup:=by
 unfold List.Nodup at*;rw[vT];exact hl.imp_of_mem fun hx hy hne e=>hne (hf _ hx _ hy e)
theorem U2{ps:List Pr}{s u:LB}(hn:(ps.map Prod.fst).Nodup)(h:(s,u)∈ps):uW ps s=some u:=by
 induction ps with
 |nil=>cases h
 |cons p ps ih=>
  rw[zL]at hn;have hn':=xb.1 hn;rw[BQ];rcases zI.1 h with e|e
  subst e;rw[z8 rfl]
  .rw[z6 (fun e2=>hn'.1 (by rw[e2];exact zM.2 ⟨_,e,rfl⟩))];exact ih hn'.2 e
structure eA(a b:List Qd)(ps:List Pr):Prop where
 va:j4 a
 vb:j4 b
 fs:(ps.map Prod.fst).Perm (Z0 a)
 sn:(ps.map Prod.snd).Perm (Z0 b)
 ay:b.Perm (a.map (XO ps))
def oP(ps:List Pr):List Pr:=ps.map fun p=>(p.2,p.1)
theorem Eg(ps:List Pr):(oP ps).map Prod.fst=ps.map Prod.snd:=by unfold oP;rw[yq];rfl
theorem Zgu(ps:List Pr):(oP ps).map Prod.snd=ps.map Prod.fst:=by unfold oP;rw[yq];rfl
theorem UA{ps:List Pr}{t:Tm}(h:¬t.k=2):ZT ps t=t:=z6 h
theorem JO{ps:List Pr}{t:Tm}{u:LB}(h:t.k=2)(hu:uW ps t.t=some u):ZT ps t={t with t:=u}:=by unfold ZT;rw[z8 h,hu]
theorem RX(ps:List Pr)(q:Qd):Zv (XO ps q)=(Zv q).map (ZT ps):=rfl
theorem W4{f g:Tm->Tm}{q:Qd}(h:∀t∈Zv q,f t=g t):(⟨f q.s,f q.p,f q.o,f q.g⟩:Qd)=⟨g q.s,g q.p,g q.o,g q.g⟩:=by
 rw[h q.s (by simp[Zv]),h q.p (by simp[Zv]),h q.o (by simp[Zv]),h q.g (by simp[Zv])]
section
variable {a b c:List Qd}{ps:List Pr}
theorem U3(h:(ps.map Prod.fst).Perm (Z0 a)){s:LB}(hs:s∈Z0 a):∃u,(s,u)∈ps/\uW ps s=some u:=by
 obtain⟨p,hp,rfl⟩:=zM.1 (h.mem_iff.2 hs);exact⟨p.2,hp,U2 (h.symm.nodup (Yk a)) hp⟩
theorem A0(h:(ps.map Prod.fst).Perm (Z0 a))(hn:(ps.map Prod.snd).Nodup){q:Qd}(hq:q∈a):XO (oP ps) (XO ps q)=q:=by
 have:∀t∈Zv q,ZT (oP ps) (ZT ps t)=t:=fun t ht=>by
  by_cases hk:t.k=2
  .obtain⟨u,hu,e⟩:=U3 h (YB hq ht hk);have e2:uW (oP ps) u=some t.t:=U2 (by rw[Eg];exact hn) (zM.2 ⟨_,hu,rfl⟩);rw[JO hk e,JO (by exact hk) e2]
  rw[UA hk,UA hk]
 exact W4 (f:=fun t=>ZT (oP ps) (ZT ps t)) (g:=id) this
theorem RY(hr:a.Nodup)(h:(ps.map Prod.fst).Perm (Z0 a))(hn:(ps.map Prod.snd).Nodup):(a.map (XO ps)).Nodup:=
 BZ hr fun x hx y hy e=>by rw[<-A0 h hn hx,e,A0 h hn hy]
theorem eA.turn(h:eA a b ps):eA b a (oP ps):=by
 refine⟨h.vb,h.va,by rw[Eg];exact h.sn,by rw[Zgu];exact h.fs,?_⟩;refine .trans (.of_eq ?_) (h.ay.map (XO (oP ps))).symm;rw[yq];refine((zZ fun q hq=>?_).trans (List.map_id _)).symm;exact A0 h.fs (h.sn.symm.nodup (Yk b)) hq
def iH(p q:List Pr):List Pr:=p.map fun x=>(x.1,(uW q x.2).getD [])
theorem eA.comp{qs:List Pr}(h:eA a b ps)(h2:eA b c qs):eA a c (iH ps qs):=by
 have Eh:(qs.map Prod.fst).Nodup:=h2.fs.symm.nodup (Yk b);have e1:(iH ps qs).map Prod.fst=ps.map Prod.fst:=by unfold iH;rw[yq];rfl
 have e2:(iH ps qs).map Prod.snd=(ps.map Prod.snd).map fun s=>(uW qs s).getD []:=by unfold iH;rw[yq,yq];rfl
 have RZ:((iH ps qs).map Prod.fst).Nodup:=by rw[e1];exact h.fs.symm.nodup (Yk a)
 refine⟨h.va,h2.vb,by rw[e1];exact h.fs,?_,?_⟩
 .rw[e2];refine((h.sn.trans h2.fs.symm).map _).trans (.trans (.of_eq ?_) h2.sn);rw[yq];refine zZ fun x hx=>?_;show(uW qs x.1).getD []=x.2
  rw[U2 Eh (u:=x.2) hx];rfl
 .refine h2.ay.trans ((h.ay.map _).trans (.of_eq ?_));rw[yq];refine zZ fun q hq=>?_
  have:∀t∈Zv q,ZT qs (ZT ps t)=ZT (iH ps qs) t:=fun t ht=>by
   by_cases hk:t.k=2
   .obtain⟨u,hu,e⟩:=U3 h.fs (YB hq ht hk);obtain⟨w,hw,e'⟩:=U3 h2.fs (h.sn.mem_iff.1 (zM.2 ⟨_,hu,rfl⟩));rw[JO hk e,JO (by exact hk) e',JO hk (U2 RZ (zM.2 ⟨_,hu,rfl⟩))];show Tm.mk _ w _ _=Tm.mk _ ((uW qs u).getD []) _ _
    rw[e'];rfl
   rw[UA hk,UA hk,UA hk]
  exact W4 (f:=fun t=>ZT qs (ZT ps t)) this
theorem S0{A B:List LB}{zs:List Nat}(h:zs.length=A.length):(uG A B zs).map Prod.fst=A:=by
 unfold uG;apply yy (by rw[zj,vj];omega);intro i h1 h2;simp
theorem S1{A B:List LB}{zs:List Nat}(h:zs.length=A.length):(uG A B zs).map Prod.snd=zs.map fun z=>B.getD z []:=by
 unfold uG;apply yy (by rw[zj,vj,zj];omega);intro i h1 h2;simp
theorem S2(h:(ps.map Prod.fst).Perm (Z0 a)){q:Qd}(hq:q∈a):jv ps q=XO ps q:=
 W4 fun t ht=>by
  by_cases hk:t.k=2
  .obtain⟨u,hu,e⟩:=U3 h (YB hq ht hk);rw[JO hk e];unfold qG;rw[z8 hk,e];rfl
  rw[UA hk];exact GH hk
theorem Maps.bij{zs:List Nat}(h:Maps a b zs):eA a b (uG (Z0 a) (Z0 b) zs):=by
 obtain⟨dA,dB⟩:=Vv h.hv;have f1:((uG (Z0 a) (Z0 b) zs).map Prod.fst).Perm (Z0 a):= .of_eq (S0 h.len);refine⟨dA,dB,f1,?_,?_⟩
 .rw[S1 h.len];refine(h.perm.map _).trans (.of_eq ?_);apply yy (by rw[zj,yw,h.lb]);intro i h1 h2;simp[h2]
 refine h.ay.trans (.of_eq (zZ fun q hq=>S2 f1 hq))
theorem eA.maps(h:eA a b ps):∃zs,Maps a b zs/\∀s∈Z0 a,uW (uG (Z0 a) (Z0 b) zs) s=uW ps s:=by
 have l1:=h.fs.length_eq;have l2:=h.sn.length_eq;rw[zj]at l1 l2;have RZ:(ps.map Prod.fst).Nodup:=h.fs.symm.nodup (Yk a);have Eh:(ps.map Prod.snd).Nodup:=h.sn.symm.nodup (Yk b)
 have key:∀s∈Z0 a,∃u,uW ps s=some u/\(s,u)∈ps/\u∈Z0 b:=fun s hs=>by
  obtain⟨u,hu,e⟩:=U3 h.fs hs;exact⟨u,e,hu,h.sn.mem_iff.1 (zM.2 ⟨_,hu,rfl⟩)⟩
 have same:∀s∈Z0 a,uW (uG (Z0 a) (Z0 b) ((Z0 a).map fun s=>(Z0 b).idxOf ((uW ps s).getD []))) s=uW ps s:=fun s hs=>by
  obtain⟨u,e,hu,hm⟩:=key s hs;have hi:=zy hs;have:=iE (B:=Z0 b) (Yk a) (zs:=(Z0 a).map fun s=>(Z0 b).idxOf ((uW ps s).getD [])) (i:=(Z0 a).idxOf s) (by rw[zj];exact hi) hi;rw[y9,zV hi,e]at this;rw[this,e];have hb:=zy hm;rw[Option.getD_some,zi,z1 hb,zV hb];rfl
 refine⟨_,⟨RW h.va h.vb,zj ..,by omega,?_,?_,?_⟩,same⟩
 .refine BZ (Yk a) fun x hx y hy e=>?_;obtain⟨u,e1,hu,hm⟩:=key x hx;obtain⟨w,e2,hw,hm2⟩:=key y hy;rw[e1,e2,Option.getD_some,Option.getD_some]at e;have h1:=zV (zy hm);have h2:=zV (zy hm2);have huw:u=w:=by rw[<-h1,<-h2];congr 1
  subst huw;have t1:=U2 (ps:=oP ps) (s:=u) (u:=x) (by rw[Eg];exact Eh) (zM.2 ⟨_,hu,rfl⟩);have t2:=U2 (ps:=oP ps) (s:=u) (u:=y) (by rw[Eg];exact Eh) (zM.2 ⟨_,hw,rfl⟩);rw[t1]at t2;injection t2
 .intro z hz;obtain⟨s,hs,rfl⟩:=zM.1 hz;obtain⟨u,e,hu,hm⟩:=key s hs;have:=zy hm;rw[e,Option.getD_some];omega
 .refine h.ay.trans (.of_eq (zZ fun q hq=>?_));refine W4 (f:=ZT ps) (g:=qG _) fun t ht=>?_;by_cases hk:t.k=2
  .obtain⟨u,e,hu,hm⟩:=key _ (YB hq ht hk);rw[JO hk e];unfold qG;rw[z8 hk,same _ (YB hq ht hk),e];rfl
  rw[UA hk,GH hk]
theorem S3{K:Type}(f:K->Nat)(P:K->Prop):∀l:List K,(∃x∈l,P x)->∃x∈l,P x/\∀y∈l,P y->f y<=f x
 | [],h=>by obtain⟨x,hx,_⟩:=h;cases hx
 |z::l,h=>by
  by_cases hl:∃x∈l,P x
  .obtain⟨x,hx,hp,hm⟩:=S3 f P l hl;by_cases hz:P z/\f x<=f z
   .refine⟨z,zF ..,hz.1,fun y hy hP=>?_⟩;rcases zI.1 hy with rfl|e
    exact zn _;exact zK (hm y e hP) hz.2
   .refine⟨x,zG _ hx,hp,fun y hy hP=>?_⟩;rcases zI.1 hy with rfl|e
    exact Nat.le_of_not_le fun h2=>hz ⟨hP,h2⟩;exact hm y e hP
  .obtain⟨x,hx,hp⟩:=h;rcases zI.1 hx with rfl|e
   .refine⟨x,zF ..,hp,fun y hy hP=>?_⟩;rcases zI.1 hy with rfl|e
    exact zn _;exact(hl ⟨y,e,hP⟩).elim
   exact(hl ⟨x,e,hp⟩).elim
theorem Zep{uf:Int}(hF:kC a b uf ps 0):∃r,ps=uG (Z0 a) (Z0 b) r/\Maps a b r:=by
 rcases hF with⟨h1,_,e⟩|⟨_,_,_,e⟩|⟨hv,hst,F,c,hs,he⟩
 exact(h1 e.symm).elim;cases e
 .obtain⟨dA,dB⟩:=Vv hv;unfold iF at he;split at he
  .split at he
   .rename_i r m hr;injection he with h1 _;have hp:=BS (Z0 a).length [] (jG uf) List.nodup_nil (fun y hy=>by cases hy) hr;have hrl:r.length=(Z0 a).length:=by rw[hp.len];simp
    have f1:((uG (Z0 a) (Z0 b) r).map Prod.fst).Perm (Z0 a):= .of_eq (S0 hrl)
    have f2:((uG (Z0 a) (Z0 b) r).map Prod.snd).Nodup:=by
     rw[S1 hrl];refine BZ hp.nd fun x hx y hy e=>?_;have hx:=hp.lt x hx;have hy:=hp.lt y hy;rw[zi,zi,z1 (by rw[<-hst.2.1];exact hx),z1 (by rw[<-hst.2.1];exact hy)]at e;exact(yZ (Yk b)).1 e
    have hn:=RY (Yb qO dA.cc) f1 f2;have e1:a.map (jv (uG (Z0 a) (Z0 b) r))=a.map (XO (uG (Z0 a) (Z0 b) r)):=zZ fun q hq=>S2 f1 hq;refine⟨r,h1,hv,hrl,hst.2.1.symm,hp.nd,hp.lt,?_⟩;refine Bj (by rw[e1];exact hn) (by rw[zj,hst.1]) fun z hz=>?_;obtain⟨q,hq,rfl⟩:=zM.1 hz;by_cases jR:∃t∈Zv q,t.k=2
    .obtain⟨t,ht,hk,nL⟩:=S3 (fun t:Tm=>(Z0 a).idxOf t.t) (fun t=>t.k=2) _ jR;have hi:=zy (YB hq ht hk);have hl:(r.take ((Z0 a).idxOf t.t+1)).length=(Z0 a).idxOf t.t+1:=by rw[zA];omega
     have hf:=hp.fit ((Z0 a).idxOf t.t+1) (by simp) (by omega);rw[RD (by omega) hl,vr,List.any_eq_false]at hf
     have hall:dh (uG (Z0 a) (Z0 b) (r.take ((Z0 a).idxOf t.t+1))) q=true:=by
      unfold dh;rw[zN];intro t' ht';by_cases hk':t'.k=2
      .have hm':=nL t' ht' hk';have hi':=zy (YB hq ht' hk');have:=iE (B:=Z0 b) (Yk a) (zs:=r.take ((Z0 a).idxOf t.t+1)) (i:=(Z0 a).idxOf t'.t) (by rw[hl];omega) hi';rw[zV hi']at this;rw[this];simp
      simp[hk']
     have hin:rX ((Z0 a)[(Z0 a).idxOf t.t]) q=true:=by
      unfold rX;rw[xG];exact⟨t,ht,by rw[zV hi];simp[hk]⟩
     have:=hf q hq;unfold Gz at this;rw[hin,hall,RV (Yk a) hall]at this;simpa using this
    .have hno:∀t∈Zv q, ¬t.k=2:=fun t ht hk=>jR ⟨t,ht,hk⟩;have e2:jv (uG (Z0 a) (Z0 b) r) q=q:=W4 (f:=qG _) (g:=id) fun t ht=>GH (hno t ht);rw[e2];have:q∈qw a:=yY.2 ⟨hq,by rw[zN];intro t ht;simpa using hno t ht⟩;rw[hst.2.2]at this;exact(yY.1 this).1
   injection he with _ h2;cases h2;injection he with _ h2;cases h2
  injection he with _ h2;cases h2
theorem ZiE{uf:Int}{e:Int}(hF:kC a b uf ps e):(e≠0->ps=[])/\(Jf a b=0->e=0\/e=4\/e=140)/\(Jf a b≠0->e=Jf a b):=by
 rcases hF with⟨h1,rfl,rfl⟩|⟨h1,_,rfl,rfl⟩|⟨h1,hst,F,c,hs,he⟩
 exact⟨fun _=>rfl,fun h=>(h1 h).elim,fun _=>rfl⟩;exact⟨fun _=>rfl,fun _=> .inr (.inr rfl),fun h=>(h h1).elim⟩
 .unfold iF at he;split at he
  .split at he
   injection he with h3 h4;subst h4;exact⟨fun h=>(h rfl).elim,fun _=> .inl rfl,fun h=>(h h1).elim⟩;injection he with h3 h4;subst h3;subst h4;exact⟨fun _=>rfl,fun _=> .inr (.inr rfl),fun h=>(h h1).elim⟩;injection he with h3 h4;subst h3;subst h4;exact⟨fun _=>rfl,fun _=> .inr (.inl rfl),fun h=>(h h1).elim⟩
  injection he with h3 h4;subst h3;subst h4;exact⟨fun _=>rfl,fun _=> .inr (.inr rfl),fun h=>(h h1).elim⟩
theorem S4{uf:Int}(hF:kC a b uf ps 0):eA a b ps:=by
 obtain⟨r,rfl,h⟩:=Zep hF;exact h.bij
theorem eA.find{uf e:Int}{qs:List Pr}(h:eA a b ps)(hF:kC a b uf qs e):(e=4/\qs=[]/\0< (Z0 a).length)\/e=0:=by
 obtain⟨zs,hm,_⟩:=h.maps;rcases hm.find hF with h1|h1
 exact .inl h1;exact .inr h1.1
end
def Qu(u:LB):Prop:=u.length<=65536/\U9 u=0
theorem Zkr{t:Tm}(hk:t.k=2)(h:Go.Our.uF t=0):(t.y=[]/\t.l=[])/\Qu t.t:=by
 unfold Go.Our.uF at h;rw[z8 (.inr hk)]at h;split at h
 cases h
 .rename_i h1;rw[z6 (by rw[hk];decide)]at h;split at h
  cases h
  .rename_i h2;refine⟨⟨yu fun e=>h1 (.inl e),yu fun e=>h1 (.inr e)⟩,by omega,h⟩
theorem Zks{t:Tm}(hk:t.k=2)(hy:t.y=[])(hl:t.l=[])(h:Qu t.t):Go.Our.uF t=0:=by
 unfold Go.Our.uF;rw[z8 (.inr hk),z6 (by rw[hy,hl];simp),z6 (by rw[hk];decide),z6 (by have:=h.1;omega)];exact h.2
theorem UB{l:List Qd}{u:LB}(hu:u∈Z0 l):∃q∈l,∃t∈Zv q,t.k=2/\t.t=u:=by
 obtain⟨q,hq,h⟩:=xy.1 ((Vc _ _).1 hu);unfold ZB at h
 have key:∀{t:Tm},u∈ZV t->t.k=2/\t.t=u:=fun{t} h=>by
  unfold ZV at h;split at h
  exact⟨‹_›,(zJ.1 h).symm⟩;cases h
 simp only[zX]at h;rcases h with((h|h)|h)|h
 exact⟨q,hq,q.s,by simp[Zv],key h⟩;exact⟨q,hq,q.p,by simp[Zv],key h⟩;exact⟨q,hq,q.o,by simp[Zv],key h⟩;exact⟨q,hq,q.g,by simp[Zv],key h⟩
theorem W5{ps:List Pr}{t:Tm}(h:Go.Our.uF t=0)(hu:t.k=2->∃u,uW ps t.t=some u/\Qu u):Go.Our.uF (ZT ps t)=0:=by
 by_cases hk:t.k=2
 .obtain⟨u,e,hl⟩:=hu hk;rw[JO hk e];have:=(Zkr hk h).1;exact Zks hk this.1 this.2 hl
 rw[UA hk];exact h
theorem Ei(ps:List Pr)(t:Tm):(ZT ps t).k=t.k:=by
 unfold ZT;split
 split<;>rfl
 rfl
theorem ZbF{ps:List Pr}{q:Qd}(h:XB q=0)(hu:∀t∈Zv q,t.k=2->∃u,uW ps t.t=some u/\Qu u):XB (XO ps q)=0:=by
 have hg:(ZT ps q.g=ZF)<->q.g=ZF:=by
  constructor
  .intro e;by_cases hk:q.g.k=2
   .have:=Ei ps q.g;rw[e,hk]at this;cases this
   rwa [UA hk]at e
  .intro e;rw[e];exact UA (by decide)
 unfold XB at h⊢
 show(if ¬((ZT ps q.s).k=1\/(ZT ps q.s).k=2)then 70 else if Go.Our.uF (ZT ps q.s)≠0 then Go.Our.uF (ZT ps q.s)else
 if ¬(ZT ps q.p).k=1 then 70 else if Go.Our.uF (ZT ps q.p)≠0 then Go.Our.uF (ZT ps q.p)else
 if Go.Our.uF (ZT ps q.o)≠0 then Go.Our.uF (ZT ps q.o)else
 if ZT ps q.g=ZF then 0 else if ¬((ZT ps q.g).k=1\/(ZT ps q.g).k=2)then 70 else Go.Our.uF (ZT ps q.g))=0
 simp only[Ei,hg];split at h
 cases h
 rename_i h1;rw[z6 h1];split at h
 exact absurd h ‹_›;rename_i h2;rw[z6 (fun e=>e (W5 (yu h2) (hu _ (by simp[Zv]))))];split at h
 cases h
 rename_i h3;rw[z6 h3];split at h
 exact absurd h ‹_›;rename_i h4;rw[z6 (fun e=>e (W5 (yu h4) (hu _ (by simp[Zv]))))];split at h
 exact absurd h ‹_›;rename_i h5;rw[z6 (fun e=>e (W5 (yu h5) (hu _ (by simp[Zv]))))];split at h
 rw[z8 ‹_›];rename_i h6;rw[z6 h6];split at h
 cases h
 rename_i h7;rw[z6 h7];exact W5 h (hu _ (by simp[Zv]))
theorem ZiF{l:List Qd}{ps:List Pr}(d:j4 l)(fs:(ps.map Prod.fst).Perm (Z0 l))(nd:(ps.map Prod.snd).Nodup)(ok:∀u∈ps.map Prod.snd,Qu u):eA l (wQ ZJ (l.map (XO ps))) ps:=by
 have hu:∀q∈l,∀t∈Zv q,t.k=2->∃u,(t.t,u)∈ps/\uW ps t.t=some u/\Qu u:=fun q hq t ht hk=>by
  obtain⟨u,h1,h2⟩:=U3 fs (YB hq ht hk);exact⟨u,h1,h2,ok u (zM.2 ⟨_,h1,rfl⟩)⟩
 have hr:=J7 qO (l.map (XO ps));have hl:=Cq (c:=ZJ) (l.map (XO ps));rw[zj]at hl;refine⟨d,⟨hr,zK hl d.few,fun q hq=>?_⟩,fs,BX nd (Yk _) fun u=>?_,BX (Yb qO hr) (RY (Yb qO d.cc) fs nd) fun z=>Vc _ _⟩
 .obtain⟨q0,Ej,rfl⟩:=zM.1 ((Vc _ _).1 hq);refine ZbF (d.ck q0 Ej) fun t ht hk=>?_;obtain⟨u,_,h2,h3⟩:=hu q0 Ej t ht hk;exact⟨u,h2,h3⟩
 .constructor
  .intro hm;obtain⟨p,hp,rfl⟩:=zM.1 hm;have h1:p.1∈Z0 l:=fs.mem_iff.1 (zM.2 ⟨p,hp,rfl⟩);obtain⟨q,hq,t,ht,hk,he⟩:=UB h1;have e:uW ps t.t=some p.2:=by rw[he];exact U2 (fs.symm.nodup (Yk l)) hp
   have:=YB (l:=wQ ZJ (l.map (XO ps))) ((Vc _ _).2 (zM.2 ⟨q,hq,rfl⟩)) (t:=ZT ps t) (by rw[RX];exact xu ht) (by rw[Ei];exact hk);rw[JO hk e]at this;exact this
  .intro hm;obtain⟨q,hq,t,ht,hk,rfl⟩:=UB hm;obtain⟨q0,Ej,rfl⟩:=zM.1 ((Vc _ _).1 hq);rw[RX]at ht;obtain⟨t0,lE,rfl⟩:=zM.1 ht;rw[Ei]at hk;obtain⟨u,h1,h2,_⟩:=hu q0 Ej t0 lE hk;rw[JO hk h2];exact zM.2 ⟨_,h1,rfl⟩
end Go.Proofs.YtlcbipfmodcedaaGreatDoor
