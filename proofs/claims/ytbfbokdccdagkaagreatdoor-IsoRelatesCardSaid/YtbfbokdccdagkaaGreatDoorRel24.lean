/- Part 24: FindT, FindU. Conditions: as each part says. -/
import Derived.Test.YtbfbokdccdagkaaGreatDoorRel19
import Derived.Test.YtbfbokdccdagkaaGreatDoorRel21
import Derived.Test.YtbfbokdccdagkaaGreatDoorRel23
set_option linter.unusedVariables false
set_option linter.unusedSimpArgs false
set_option maxRecDepth 20000
set_option maxHeartbeats 8000000
namespace Go.Proofs.YtbfbokdccdagkaaGreatDoor
open Go.Sx Go.Our
structure Maps(a b:List Qd)(zs:List Nat):Prop where
 hv:Xu a b=0
 len:zs.length=(Z0 a).length
 lb:(Z0 b).length=(Z0 a).length
 nd:zs.Nodup
 lt:∀z∈zs,z< (Z0 a).length
 img:b.Perm (a.map (renQ (prsM (Z0 a) (Z0 b) zs)))
theorem X2(l:List Qd):(Z0 l).Nodup:=Yo triL (XN triL _)
theorem Z6e{ps:List Pr}{t:Tm}(h:¬t.k=2):renT ps t=t:=if_neg h
theorem WA(ps:List Pr)(t:Tm):(renT ps t).k=t.k:=by unfold renT;split<;>rfl
theorem Z8e(ps:List Pr)(q:Qd):ZC (renQ ps q)=(ZC q).map (renT ps):=rfl
theorem VT{l:List Nat}{i:Nat}(h:i<l.length):l.getD i 0=l[i]:=by rw[List.getD_eq_getElem?_getD,List.getElem?_eq_getElem h];rfl
theorem ZbF{A B:List LB}(hA:A.Nodup){zs:List Nat}{k:Nat}{s:LB}(hs:(toOf (prsM A B (zs.take k)) s).isSome=true):toOf (prsM A B zs) s=toOf (prsM A B (zs.take k)) s:=by
 by_cases hm:s∈A
 ·have hi:=List.idxOf_lt_length_of_mem hm;by_cases hk:A.idxOf s< (zs.take k).length
  ·have hk2:A.idxOf s<zs.length:=by rw[List.length_take]at hk;omega
   have e1:=Z78 (B:=B) hA hk hi;have e2:=Z78 (B:=B) hA hk2 hi;rw[List.getElem_idxOf hi]at e1 e2;rw[e1,e2,List.getElem_take]
  ·rw[Zd5]at hs
   ·cases hs
   ·intro i hi2 hi3 e;rw[<-e,hA.idxOf_getElem i hi2]at hk;omega
 ·rw[Zd5]at hs
  ·cases hs
  ·exact fun i hi _ e=>hm (e▸List.getElem_mem hi)
theorem Z8f{A B:List LB}(hA:A.Nodup){zs:List Nat}{k:Nat}{q:Qd}(hq:allQ (prsM A B (zs.take k)) q=true):renQ (prsM A B (zs.take k)) q=renQ (prsM A B zs) q:=by
 unfold allQ at hq;rw[List.all_eq_true]at hq
 have k1:∀t∈ZC q,renT (prsM A B (zs.take k)) t=renT (prsM A B zs) t:=fun t ht=>by
  unfold renT;by_cases hk:t.k=2
  ·rw[if_pos hk,if_pos hk,<-ZbF hA (k:=k) (zs:=zs) (by simpa[hk]using hq t ht)]
  ·rw[if_neg hk,if_neg hk]
 unfold renQ;rw[k1 q.s (by simp[ZC]),k1 q.p (by simp[ZC]),k1 q.o (by simp[ZC]),k1 q.g (by simp[ZC])]
section
variable {a b:List Qd}{zs:List Nat}(h:Maps a b zs)
include h
theorem Maps.yes{q:Qd}(hq:q∈a){t:Tm}(ht:t∈ZC q)(hk:t.k=2):∃i,∃(hi:i<zs.length) (hA:i< (Z0 a).length) (hB:zs[i]< (Z0 b).length),t.t=(Z0 a)[i]/\numM (ixF 0 (Z0 a)) t=(i:Int)/\renT (prsM (Z0 a) (Z0 b) zs) t={t with t:=(Z0 b)[zs[i]]}/\numM (ixF (Z0 a).length (Z0 b)) (renT (prsM (Z0 a) (Z0 b) zs) t)=(((Z0 a).length+zs[i]:Nat):Int):=by
 have hm:=YZ hq ht hk;have hA:=List.idxOf_lt_length_of_mem hm;have hi:(Z0 a).idxOf t.t<zs.length:=by rw[h.len];exact hA
 have hB:zs[(Z0 a).idxOf t.t]< (Z0 b).length:=by rw[h.lb];exact h.lt _ (List.getElem_mem hi)
 have hr:renT (prsM (Z0 a) (Z0 b) zs) t={t with t:=(Z0 b)[zs[(Z0 a).idxOf t.t]]}:=by
  have:=Z78 (B:=Z0 b) (X2 a) hi hA;rw[List.getElem_idxOf hA]at this;unfold renT;rw[if_pos hk,this,Option.getD_some,List.getD_eq_getElem?_getD,List.getElem?_eq_getElem hB];rfl
 refine⟨_,hi,hA,hB,(List.getElem_idxOf hA).symm,?_,hr,?_⟩
 ·unfold numM;rw[if_pos hk,Z6b hm];omega
 ·rw[hr];unfold numM;rw[if_pos hk,Z6b (List.getElem_mem hB)];show((Z0 a).length:Int)+(((Z0 b).idxOf (Z0 b)[zs[(Z0 a).idxOf t.t]]:Nat):Int)=_
  rw[(X2 b).idxOf_getElem _ hB];omega
def InvC(zs:List Nat)(n:Nat)(cl:List Int):Prop:=∀i,i<n->cl.getD i 0=cl.getD (n+zs.getD i 0) 0
theorem Maps.see{cl:List Int}(hc:InvC zs (Z0 a).length cl){i:Nat}(hi:i< (Z0 a).length){q:Qd}(hq:q∈a){t:Tm}(ht:t∈ZC q):
 seeM cl ((Z0 a).length+zs.getD i 0) (numM (ixF (Z0 a).length (Z0 b)) (renT (prsM (Z0 a) (Z0 b) zs) t)) (renT (prsM (Z0 a) (Z0 b) zs) t)=seeM cl i (numM (ixF 0 (Z0 a)) t) t:=by
 by_cases hk:t.k=2
 ·obtain⟨j,hj,hA,hB,h1,h2,h3,h4⟩:=h.yes hq ht hk;have hiz:i<zs.length:=by rw[h.len];exact hi
  rw[h4,h2,VT hiz];unfold seeM;rw[if_neg (show ¬(((Z0 a).length+zs[j]:Nat):Int)<0 by omega),if_neg (show ¬(j:Int)<0 by omega)];by_cases e:j=i
  ·subst e;rw[if_pos rfl,if_pos rfl]
  ·have hne:¬zs[j]=zs[i]:=fun h5=>by
    have h6:=h.nd.idxOf_getElem j hj;rw[h5,h.nd.idxOf_getElem i hiz]at h6;exact e h6.symm
   rw[if_neg (show ¬(((Z0 a).length+zs[j]:Nat):Int)=(((Z0 a).length+zs[i]:Nat):Int)by omega),if_neg (show ¬(j:Int)=(i:Int)by omega),Int.toNat_natCast,Int.toNat_natCast];have:=hc j hA;rw[VT hj]at this;rw[this]
 ·rw[Z6e hk];have e1:∀f:LB->Int,numM f t= -1:=fun f=>if_neg hk;rw[e1,e1];unfold seeM;rw[if_pos (by omega),if_pos (by omega)]
theorem Maps.sg{cl:List Int}(hc:InvC zs (Z0 a).length cl){i:Nat}(hi:i< (Z0 a).length){q:Qd}(hq:q∈a):
 sgM cl ((Z0 a).length+zs.getD i 0) (sdM (ixF (Z0 a).length (Z0 b)) (renQ (prsM (Z0 a) (Z0 b) zs) q))=sgM cl i (sdM (ixF 0 (Z0 a)) q):=by
 unfold sgM sdM renQ;simp only;rw[h.see hc hi hq (t:=q.s) (by simp[ZC]),h.see hc hi hq (t:=q.p) (by simp[ZC]),h.see hc hi hq (t:=q.o) (by simp[ZC]),h.see hc hi hq (t:=q.g) (by simp[ZC])]
theorem Maps.own{i:Nat}(hi:i< (Z0 a).length){q:Qd}(hq:q∈a):((((Z0 a).length+zs.getD i 0:Nat):Int)∈ownM (ixF (Z0 a).length (Z0 b)) (renQ (prsM (Z0 a) (Z0 b) zs) q))<->((i:Int)∈ownM (ixF 0 (Z0 a)) q):=by
 have hiz:i<zs.length:=by rw[h.len];exact hi
 rw[own_mem,own_mem,Z8e,VT hiz];have num_of:∀(f:LB->Int) (t:Tm),t.k=2->numM f t=f t.t:=fun f t hk=>if_pos hk;constructor
 ·rintro⟨t',ht',hk,he⟩;obtain⟨t,ht,rfl⟩:=List.mem_map.1 ht';rw[WA]at hk;obtain⟨j,hj,hA,hB,h1,h2,h3,h4⟩:=h.yes hq ht hk;have e2:=num_of (ixF (Z0 a).length (Z0 b)) (renT (prsM (Z0 a) (Z0 b) zs) t) (by rw[WA];exact hk);rw[<-e2,h4]at he;have hji:zs[j]=zs[i]:=by omega
  have h6:=h.nd.idxOf_getElem j hj;rw[hji,h.nd.idxOf_getElem i hiz]at h6;subst h6;exact⟨t,ht,hk,by rw[<-num_of (ixF 0 (Z0 a)) t hk,h2]⟩
 ·rintro⟨t,ht,hk,he⟩;obtain⟨j,hj,hA,hB,h1,h2,h3,h4⟩:=h.yes hq ht hk;rw[<-num_of (ixF 0 (Z0 a)) t hk,h2]at he;have hji:j=i:=by omega
  subst hji;exact⟨_,List.mem_map_of_mem ht,by rw[WA];exact hk,by rw[<-num_of (ixF (Z0 a).length (Z0 b)) (renT (prsM (Z0 a) (Z0 b) zs) t) (by rw[WA];exact hk),h4]⟩
theorem Maps.sights{cl:List Int}(hc:InvC zs (Z0 a).length cl){i:Nat}(hi:i< (Z0 a).length):(Yc cl (ins2 a b) ((Z0 a).length+zs.getD i 0)).Perm (Yc cl (ins2 a b) i):=by
 have hiz:i<zs.length:=by rw[h.len];exact hi
 have hx:(Z0 a).length+zs.getD i 0< (ins2 a b).length:=by rw[Vr,h.lb,VT hiz];have:=h.lt _ (List.getElem_mem hiz);omega
 have hg:(ins2 a b).getD ((Z0 a).length+zs.getD i 0) []=(b.filter fun q=>decide ((((Z0 a).length+zs.getD i 0:Nat):Int)∈ownM (ixF (Z0 a).length (Z0 b)) q)).map (sdM (ixF (Z0 a).length (Z0 b))):=by
  rw[<-Zbu (by omega) hx];generalize(Z0 a).length+zs.getD i 0=x at hx⊢;rw[List.getD_eq_getElem?_getD,List.getElem?_eq_getElem hx];rfl
 unfold Yc;rw[Z4M hi,hg,List.map_map,List.map_map];refine((h.img.filter _).map _).trans ?_;rw[List.filter_map,List.map_map]
 have e1:a.filter ((fun q=>decide ((((Z0 a).length+zs.getD i 0:Nat):Int)∈ownM (ixF (Z0 a).length (Z0 b)) q))∘renQ (prsM (Z0 a) (Z0 b) zs))=a.filter fun q=>decide ((i:Int)∈ownM (ixF 0 (Z0 a)) q):=by
  refine List.filter_congr fun q hq=>?_;simp only[Function.comp_apply];rw[Bool.eq_iff_iff,decide_eq_true_iff,decide_eq_true_iff];exact h.own hi hq
 rw[e1];refine List.Perm.of_eq (List.map_congr_left fun q hq=>?_);simp only[Function.comp_apply];exact h.sg hc hi (List.mem_filter.1 hq).1
theorem Maps.next{cl:List Int}(hc:InvC zs (Z0 a).length cl)(hp:∀c∈cl,0<=c)(hl:cl.length=(Z0 a).length+(Z0 b).length):InvC zs (Z0 a).length (YO (Ya cl (ins2 a b))):=by
 intro i hi;have hiz:i<zs.length:=by rw[h.len];exact hi
 have hz:=h.lt _ (List.getElem_mem hiz);have hk:keyM cl (ins2 a b) i=keyM cl (ins2 a b) ((Z0 a).length+zs.getD i 0):=(Z73 hp _ _ _).2 ⟨hc i hi,(h.sights hc hi).symm⟩;have h1:i< (Ya cl (ins2 a b)).length:=by rw[Wt,hl];omega
 have h2:(Z0 a).length+zs.getD i 0< (Ya cl (ins2 a b)).length:=by rw[Wt,hl,h.lb,VT hiz];omega
 unfold YO;rw[List.getD_eq_getElem?_getD,List.getD_eq_getElem?_getD,List.getElem?_map,List.getElem?_map,List.getElem?_eq_getElem h1,List.getElem?_eq_getElem h2,Z4J,Z4J,hk]
theorem Maps.settle{cl:List Int}{ct:Int}{F:List Int}{c:Int}(hs:Settles (ins2 a b) cl ct F c):InvC zs (Z0 a).length cl->WOK cl (ins2 a b)->InvC zs (Z0 a).length F:=by
 induction hs with
 |stop _=>exact fun hc hw=>h.next hc (fun c hm=>(hw.cs c hm).1) (by rw[<-hw.len,Vr])
 |go _ _ ih=>exact fun hc hw=>ih (h.next hc (fun c hm=>(hw.cs c hm).1) (by rw[<-hw.len,Vr])) hw.next.1
theorem Maps.perm:zs.Perm (List.range (Z0 a).length):=
 (Z72 h.nd (by rw[List.length_range,h.len]) fun z hz=>List.mem_range.2 (h.lt z hz)).symm
theorem Maps.even{F:List Int}(hc:InvC zs (Z0 a).length F)(hF:F.length=2*(Z0 a).length):Z79 F (Z0 a).length:=by
 have h1:F.take (Z0 a).length=zs.map fun z=>F.getD ((Z0 a).length+z) 0:=by
  apply List.ext_getElem (by rw[List.length_take,List.length_map,h.len];omega);intro i hi hi2;rw[List.length_map]at hi2;have hi3:i< (Z0 a).length:=by rw[<-h.len];exact hi2
  have:=hc i hi3;rw[VT hi2]at this;rw[List.getElem_take,List.getElem_map,<-this,List.getD_eq_getElem?_getD,List.getElem?_eq_getElem (by omega)];rfl
 have h2:F.drop (Z0 a).length=(List.range (Z0 a).length).map fun z=>F.getD ((Z0 a).length+z) 0:=by
  apply List.ext_getElem (by rw[List.length_drop,List.length_map,List.length_range];omega);intro i hi hi2;rw[List.length_map,List.length_range]at hi2;rw[List.getElem_drop,List.getElem_map,List.getElem_range,List.getD_eq_getElem?_getD,List.getElem?_eq_getElem (by omega)];rfl
 intro k;rw[h1,h2];exact(h.perm.map _).count_eq k
theorem Maps.stat:Z3I a b:=by
 obtain⟨dA,dB⟩:=Jx h.hv;refine⟨by rw[h.img.length_eq,List.length_map],h.lb.symm,?_⟩
 have hp:(gndM b).Perm (gndM a):=by
  unfold gndM;refine(h.img.filter _).trans ?_;rw[List.filter_map]
  have e1:a.filter ((fun q=>(ZC q).all fun t=>!decide (t.k=2))∘renQ (prsM (Z0 a) (Z0 b) zs))=a.filter fun q=>(ZC q).all fun t=>!decide (t.k=2):=by
   refine List.filter_congr fun q hq=>?_;simp only[Function.comp_apply,Z8e,List.all_map];congr 1;funext t;simp only[Function.comp_apply,WA]
  rw[e1];refine List.Perm.of_eq ((List.map_congr_left fun q hq=>?_).trans (List.map_id _));have hq:=(List.mem_filter.1 hq).2;rw[List.all_eq_true]at hq;have hn:∀t∈ZC q,renT (prsM (Z0 a) (Z0 b) zs) t=t:=fun t ht=>Z6e (by simpa using hq t ht);show renQ _ q=q
  unfold renQ;rw[hn q.s (by simp[ZC]),hn q.p (by simp[ZC]),hn q.o (by simp[ZC]),hn q.g (by simp[ZC])]
 have so:∀{l:List Qd},Rise ZO l->(gndM l).Pairwise fun x y=>ZO x y<=0:=fun hr=>(List.Pairwise.sublist List.filter_sublist hr).imp fun h=>by omega
 exact(Ug triQ (so dB.rise) (so dA.rise) hp).symm
theorem Maps.path{F:List Int}(hc:InvC zs (Z0 a).length F):Path (Z0 a).length (okM F (Z0 a).length) (fitM (Z0 a++Z0 b) (Z0 a).length b (ins2 a b)) [] zs (Z0 a).length:=by
 refine⟨List.nil_prefix,by simp[h.len],h.nd,h.lt,fun i hi _=>?_,fun k hk hk2=>?_⟩
 ·unfold okM;have:=hc i (by rw[<-h.len];exact hi);rw[VT hi]at this;exact decide_eq_true this
 ·simp only[List.length_nil]at hk;have hl:(zs.take k).length=(k-1)+1:=by rw[List.length_take];omega
  rw[ZdR (by rw[hl,<-h.len];omega) hl,Bool.not_eq_true',List.any_eq_false];intro q hq hf;unfold Zbs at hf;simp only[Bool.and_eq_true,Bool.not_eq_true',decide_eq_false_iff_not]at hf;refine hf.2 ?_;rw[Z8f (X2 a) hf.1.2];exact h.img.mem_iff.2 (List.mem_map_of_mem hq)
theorem Maps.find{budget:Int}{ps:List Pr}{e:Int}(hF:FindIs a b budget ps e):(e=4/\ps=[]/\0< (Z0 a).length)\/
 (e=0/\∃r,ps=prsM (Z0 a) (Z0 b) r/\r.length=(Z0 a).length/\(∀x∈r,x< (Z0 a).length)/\∀(i x y:Nat),(∀j:Nat,j<i->r[j]?=zs[j]?)->r[i]?=some x->zs[i]?=some y->x<=y):=by
 rcases hF with⟨h1,_⟩|⟨_,h1,_⟩|⟨_,_,F,c,hs,he⟩
 ·exact(h1 h.hv).elim
 ·exact(h1 h.stat).elim
 ·obtain⟨dA,dB⟩:=Jx h.hv;have hW:=wok2 dA dB;have hok:=hs.ok hW
  have hc0:InvC zs (Z0 a).length (List.replicate ((Z0 a).length+(Z0 b).length) 0):=fun i hi=>by
   have hiz:i<zs.length:=by rw[h.len];exact hi
   have:=h.lt _ (List.getElem_mem hiz);rw[VT hiz,List.getD_eq_getElem?_getD,List.getD_eq_getElem?_getD,List.getElem?_replicate,List.getElem?_replicate,if_pos (by omega),if_pos (by rw[h.lb];omega)]
  have hinv:=h.settle hs hc0 hW;have hFl:F.length=2*(Z0 a).length:=by rw[hok.2.1,List.length_replicate,h.lb];omega
  unfold Z4O at he;rw[if_pos (h.even hinv hFl)]at he;have hp:=h.path hinv;split at he
  ·rename_i r m hr;injection he with h1 h2;have hpr:=Z2y (Z0 a).length [] (leftM budget) List.nodup_nil (fun y hy=>by cases hy) hr;exact .inr ⟨h2,r,h1,by rw[hpr.len];simp,hpr.lt,Z3J _ _ _ hr zs hp⟩
  ·rename_i m hr;exact(UQ _ _ _ hr zs hp).elim
  ·rename_i hr;injection he with h1 h2;refine .inl ⟨h2,h1,?_⟩;rcases Nat.eq_zero_or_pos (Z0 a).length with h0|h0
   ·rw[h0]at hr;simp[Xb]at hr
   ·exact h0
end
end Go.Proofs.YtbfbokdccdagkaaGreatDoor
namespace Go.Proofs.YtbfbokdccdagkaaGreatDoor
open Go.Sx Go.Our
theorem Zgd{l:List Qd}(h:DsOK l):(Xt l).2=0:=by
 have h1:∀(n i:Nat),l.length-i<=n->badM l i=none:=by
  intro n
  induction n with
  |zero=>intro i hi;exact WS (by omega)
  |succ n ih=>
   intro i hi;by_cases hl:i<l.length
   ·rw[Z5L hl,if_neg (by rw[h.ck _ (List.getElem_mem hl)];simp)];exact ih _ (by omega)
   ·exact WS (by omega)
 have h2:∀(n i:Nat),l.length-i<=n->1<=i->WT l i=none:=by
  intro n
  induction n with
  |zero=>intro i hi _;exact Wm (by omega)
  |succ n ih=>
   intro i hi h1;by_cases hl:i<l.length
   ·have:=Z7J h.rise (i:=i-1) (j:=i) (by omega) hl;rw[Z4o hl,if_neg (by omega)];exact ih _ (by omega) (by omega)
   ·exact Wm (by omega)
 unfold Xt;rw[if_neg (by have:=h.few;omega),h1 _ 0 (Nat.le_refl _),h2 _ 1 (Nat.le_refl _) (Nat.le_refl _)]
theorem ZdT{a b:List Qd}(dA:DsOK a)(dB:DsOK b):Xu a b=0:=by
 unfold Xu;rw[Zgd dA,Zgd dB];rfl
theorem ZbG{α:Type}[DecidableEq α]:∀{x l:List α},x.Nodup->l.Nodup->(∀z,z∈x<->z∈l)->x.Perm l
 | [],l,_,_,h=>by
   have:l=[]:=List.eq_nil_iff_forall_not_mem.2 fun z hz=>by simpa using(h z).2 hz
   rw[this]
 |z::x,l,hn,hl,h=>by
  have hn':=List.nodup_cons.1 hn;have hz:z∈l:=(h z).1 (List.mem_cons_self ..);refine .trans (.cons z (ZbG hn'.2 (hl.erase z) fun w=>?_)) (List.perm_cons_erase hz).symm;rw[hl.mem_erase_iff,<-h w,List.mem_cons];constructor
  ·exact fun hw=>⟨fun e=>hn'.1 (e▸hw), .inr hw⟩
  ·rintro⟨h1,h2⟩;exact h2.resolve_left h1
theorem ZbH{α β:Type}{f:α->β}{l:List α}(hl:l.Nodup)(hf:∀x∈l,∀y∈l,f x=f y->x=y):(l.map f).Nodup:=by
 unfold List.Nodup at*;rw[List.pairwise_map];exact hl.imp_of_mem fun hx hy hne e=>hne (hf _ hx _ hy e)
theorem Vs{ps:List Pr}{s u:LB}(hn:(ps.map Prod.fst).Nodup)(h:(s,u)∈ps):toOf ps s=some u:=by
 induction ps with
 |nil=>cases h
 |cons p ps ih=>
  rw[List.map_cons]at hn;have hn':=List.nodup_cons.1 hn;rw[Z2t];rcases List.mem_cons.1 h with e|e
  ·subst e;rw[if_pos rfl]
  ·rw[if_neg (fun e2=>hn'.1 (by rw[e2];exact List.mem_map.2 ⟨_,e,rfl⟩))];exact ih hn'.2 e
structure Bij(a b:List Qd)(ps:List Pr):Prop where
 va:DsOK a
 vb:DsOK b
 fs:(ps.map Prod.fst).Perm (Z0 a)
 sn:(ps.map Prod.snd).Perm (Z0 b)
 img:b.Perm (a.map (V2 ps))
def Z0I(ps:List Pr):List Pr:=ps.map fun p=>(p.2,p.1)
theorem Z16(ps:List Pr):(Z0I ps).map Prod.fst=ps.map Prod.snd:=by unfold Z0I;rw[List.map_map];rfl
theorem Zdg(ps:List Pr):(Z0I ps).map Prod.snd=ps.map Prod.fst:=by unfold Z0I;rw[List.map_map];rfl
theorem Z2z{ps:List Pr}{t:Tm}(h:¬t.k=2):Yv ps t=t:=if_neg h
theorem UR{ps:List Pr}{t:Tm}{u:LB}(h:t.k=2)(hu:toOf ps t.t=some u):Yv ps t={t with t:=u}:=by unfold Yv;rw[if_pos h,hu]
theorem WB{f g:Tm->Tm}{q:Qd}(h:∀t∈ZC q,f t=g t):(⟨f q.s,f q.p,f q.o,f q.g⟩:Qd)=⟨g q.s,g q.p,g q.o,g q.g⟩:=by
 rw[h q.s (by simp[ZC]),h q.p (by simp[ZC]),h q.o (by simp[ZC]),h q.g (by simp[ZC])]
section
variable {a b c:List Qd}{ps:List Pr}
theorem WC(h:(ps.map Prod.fst).Perm (Z0 a)){s:LB}(hs:s∈Z0 a):∃u,(s,u)∈ps/\toOf ps s=some u:=by
 obtain⟨p,hp,rfl⟩:=List.mem_map.1 (h.mem_iff.2 hs);exact⟨p.2,hp,Vs (h.symm.nodup (X2 a)) hp⟩
theorem Z2A(h:(ps.map Prod.fst).Perm (Z0 a))(hn:(ps.map Prod.snd).Nodup){q:Qd}(hq:q∈a):V2 (Z0I ps) (V2 ps q)=q:=by
 have:∀t∈ZC q,Yv (Z0I ps) (Yv ps t)=t:=fun t ht=>by
  by_cases hk:t.k=2
  ·obtain⟨u,hu,e⟩:=WC h (YZ hq ht hk);have e2:toOf (Z0I ps) u=some t.t:=Vs (by rw[Z16];exact hn) (List.mem_map.2 ⟨_,hu,rfl⟩);rw[UR hk e,UR (by exact hk) e2]
  ·rw[Z2z hk,Z2z hk]
 exact WB (f:=fun t=>Yv (Z0I ps) (Yv ps t)) (g:=id) this
theorem ZbI(hr:a.Nodup)(h:(ps.map Prod.fst).Perm (Z0 a))(hn:(ps.map Prod.snd).Nodup):(a.map (V2 ps)).Nodup:=
 ZbH hr fun x hx y hy e=>by rw[<-Z2A h hn hx,e,Z2A h hn hy]
theorem check_iff:Yi a b ps=0<->Bij a b ps:=by
 have rA:=XN triL (Y9 a);have rB:=XN triL (Y9 b);constructor
 ·intro h;unfold Yi at h;split at h
  ·rename_i h1;exact(h1 h).elim
  ·rename_i h1;split at h
   ·rename_i h2;obtain⟨dA,dB⟩:=Jx (a:=a) (b:=b) (by simpa using h1);obtain⟨h3,h4⟩:=h2;unfold bijM at h3;simp only[Bool.and_eq_true,decide_eq_true_eq]at h3;have f1:=(Z0Z triL rA).1 h3.1.2;have f2:=(Z0Z triL rB).1 h3.2;refine⟨dA,dB,f1,f2,ZbG (Yo triQ dB.rise) (ZbI (Yo triQ dA.rise) f1 (f2.symm.nodup (X2 b))) fun z=>?_⟩;rw[<-h4,WN]
   ·cases h
 ·intro h;unfold Yi;rw[if_neg (by rw[ZdT h.va h.vb];simp),if_pos];have l1:=h.fs.length_eq;have l2:=h.sn.length_eq;rw[List.length_map]at l1 l2;refine⟨?_,?_⟩
  ·unfold bijM;simp only[Bool.and_eq_true,decide_eq_true_eq];exact⟨⟨⟨l1,by omega⟩,(Z0Z triL rA).2 h.fs⟩,(Z0Z triL rB).2 h.sn⟩
  ·exact(Zaf triQ h.vb.rise fun z=>h.img.mem_iff).symm
theorem Bij.turn(h:Bij a b ps):Bij b a (Z0I ps):=by
 refine⟨h.vb,h.va,by rw[Z16];exact h.sn,by rw[Zdg];exact h.fs,?_⟩;refine .trans (.of_eq ?_) (h.img.map (V2 (Z0I ps))).symm;rw[List.map_map];refine((List.map_congr_left fun q hq=>?_).trans (List.map_id _)).symm;exact Z2A h.fs (h.sn.symm.nodup (X2 b)) hq
def VU(p q:List Pr):List Pr:=p.map fun x=>(x.1,(toOf q x.2).getD [])
theorem Bij.comp{qs:List Pr}(h:Bij a b ps)(h2:Bij b c qs):Bij a c (VU ps qs):=by
 have nd2:(qs.map Prod.fst).Nodup:=h2.fs.symm.nodup (X2 b);have e1:(VU ps qs).map Prod.fst=ps.map Prod.fst:=by unfold VU;rw[List.map_map];rfl
 have e2:(VU ps qs).map Prod.snd=(ps.map Prod.snd).map fun s=>(toOf qs s).getD []:=by unfold VU;rw[List.map_map,List.map_map];rfl
 have nd1:((VU ps qs).map Prod.fst).Nodup:=by rw[e1];exact h.fs.symm.nodup (X2 a)
 refine⟨h.va,h2.vb,by rw[e1];exact h.fs,?_,?_⟩
 ·rw[e2];refine((h.sn.trans h2.fs.symm).map _).trans (.trans (.of_eq ?_) h2.sn);rw[List.map_map];refine List.map_congr_left fun x hx=>?_;show(toOf qs x.1).getD []=x.2
  rw[Vs nd2 (u:=x.2) hx];rfl
 ·refine h2.img.trans ((h.img.map _).trans (.of_eq ?_));rw[List.map_map];refine List.map_congr_left fun q hq=>?_
  have:∀t∈ZC q,Yv qs (Yv ps t)=Yv (VU ps qs) t:=fun t ht=>by
   by_cases hk:t.k=2
   ·obtain⟨u,hu,e⟩:=WC h.fs (YZ hq ht hk);obtain⟨w,hw,e'⟩:=WC h2.fs (h.sn.mem_iff.1 (List.mem_map.2 ⟨_,hu,rfl⟩));rw[UR hk e,UR (by exact hk) e',UR hk (Vs nd1 (List.mem_map.2 ⟨_,hu,rfl⟩))];show Tm.mk _ w _ _=Tm.mk _ ((toOf qs u).getD []) _ _
    rw[e'];rfl
   ·rw[Z2z hk,Z2z hk,Z2z hk]
  exact WB (f:=fun t=>Yv qs (Yv ps t)) this
theorem ZbJ{A B:List LB}{zs:List Nat}(h:zs.length=A.length):(prsM A B zs).map Prod.fst=A:=by
 unfold prsM;apply List.ext_getElem (by rw[List.length_map,List.length_zipWith];omega);intro i h1 h2;simp
theorem ZbK{A B:List LB}{zs:List Nat}(h:zs.length=A.length):(prsM A B zs).map Prod.snd=zs.map fun z=>B.getD z []:=by
 unfold prsM;apply List.ext_getElem (by rw[List.length_map,List.length_zipWith,List.length_map];omega);intro i h1 h2;simp
theorem Z8g(h:(ps.map Prod.fst).Perm (Z0 a)){q:Qd}(hq:q∈a):renQ ps q=V2 ps q:=
 WB fun t ht=>by
  by_cases hk:t.k=2
  ·obtain⟨u,hu,e⟩:=WC h (YZ hq ht hk);rw[UR hk e];unfold renT;rw[if_pos hk,e];rfl
  ·rw[Z2z hk];exact Z6e hk
theorem Maps.bij{zs:List Nat}(h:Maps a b zs):Bij a b (prsM (Z0 a) (Z0 b) zs):=by
 obtain⟨dA,dB⟩:=Jx h.hv;have f1:((prsM (Z0 a) (Z0 b) zs).map Prod.fst).Perm (Z0 a):= .of_eq (ZbJ h.len);refine⟨dA,dB,f1,?_,?_⟩
 ·rw[ZbK h.len];refine(h.perm.map _).trans (.of_eq ?_);apply List.ext_getElem (by rw[List.length_map,List.length_range,h.lb]);intro i h1 h2;simp[h2]
 ·refine h.img.trans (.of_eq (List.map_congr_left fun q hq=>Z8g f1 hq))
theorem Bij.maps(h:Bij a b ps):∃zs,Maps a b zs/\∀s∈Z0 a,toOf (prsM (Z0 a) (Z0 b) zs) s=toOf ps s:=by
 have l1:=h.fs.length_eq;have l2:=h.sn.length_eq;rw[List.length_map]at l1 l2;have nd1:(ps.map Prod.fst).Nodup:=h.fs.symm.nodup (X2 a);have nd2:(ps.map Prod.snd).Nodup:=h.sn.symm.nodup (X2 b)
 have key:∀s∈Z0 a,∃u,toOf ps s=some u/\(s,u)∈ps/\u∈Z0 b:=fun s hs=>by
  obtain⟨u,hu,e⟩:=WC h.fs hs;exact⟨u,e,hu,h.sn.mem_iff.1 (List.mem_map.2 ⟨_,hu,rfl⟩)⟩
 have same:∀s∈Z0 a,toOf (prsM (Z0 a) (Z0 b) ((Z0 a).map fun s=>(Z0 b).idxOf ((toOf ps s).getD []))) s=toOf ps s:=fun s hs=>by
  obtain⟨u,e,hu,hm⟩:=key s hs;have hi:=List.idxOf_lt_length_of_mem hs;have:=Z78 (B:=Z0 b) (X2 a) (zs:=(Z0 a).map fun s=>(Z0 b).idxOf ((toOf ps s).getD [])) (i:=(Z0 a).idxOf s) (by rw[List.length_map];exact hi) hi;rw[List.getElem_map,List.getElem_idxOf hi,e]at this;rw[this,e];have hb:=List.idxOf_lt_length_of_mem hm;rw[Option.getD_some,List.getD_eq_getElem?_getD,List.getElem?_eq_getElem hb,List.getElem_idxOf hb];rfl
 refine⟨_,⟨ZdT h.va h.vb,List.length_map ..,by omega,?_,?_,?_⟩,same⟩
 ·refine ZbH (X2 a) fun x hx y hy e=>?_;obtain⟨u,e1,hu,hm⟩:=key x hx;obtain⟨w,e2,hw,hm2⟩:=key y hy;rw[e1,e2,Option.getD_some,Option.getD_some]at e;have h1:=List.getElem_idxOf (List.idxOf_lt_length_of_mem hm);have h2:=List.getElem_idxOf (List.idxOf_lt_length_of_mem hm2);have huw:u=w:=by rw[<-h1,<-h2];congr 1
  subst huw;have t1:=Vs (ps:=Z0I ps) (s:=u) (u:=x) (by rw[Z16];exact nd2) (List.mem_map.2 ⟨_,hu,rfl⟩);have t2:=Vs (ps:=Z0I ps) (s:=u) (u:=y) (by rw[Z16];exact nd2) (List.mem_map.2 ⟨_,hw,rfl⟩);rw[t1]at t2;injection t2
 ·intro z hz;obtain⟨s,hs,rfl⟩:=List.mem_map.1 hz;obtain⟨u,e,hu,hm⟩:=key s hs;have:=List.idxOf_lt_length_of_mem hm;rw[e,Option.getD_some];omega
 ·refine h.img.trans (.of_eq (List.map_congr_left fun q hq=>?_));refine WB (f:=Yv ps) (g:=renT _) fun t ht=>?_;by_cases hk:t.k=2
  ·obtain⟨u,e,hu,hm⟩:=key _ (YZ hq ht hk);rw[UR hk e];unfold renT;rw[if_pos hk,same _ (YZ hq ht hk),e];rfl
  ·rw[Z2z hk,Z6e hk]
theorem ZdU{α:Type}(f:α->Nat)(P:α->Prop):∀l:List α,(∃x∈l,P x)->∃x∈l,P x/\∀y∈l,P y->f y<=f x
 | [],h=>by obtain⟨x,hx,_⟩:=h;cases hx
 |z::l,h=>by
  by_cases hl:∃x∈l,P x
  ·obtain⟨x,hx,hp,hm⟩:=ZdU f P l hl;by_cases hz:P z/\f x<=f z
   ·refine⟨z,List.mem_cons_self ..,hz.1,fun y hy hP=>?_⟩;rcases List.mem_cons.1 hy with rfl|e
    ·exact Nat.le_refl _
    ·exact Nat.le_trans (hm y e hP) hz.2
   ·refine⟨x,List.mem_cons_of_mem _ hx,hp,fun y hy hP=>?_⟩;rcases List.mem_cons.1 hy with rfl|e
    ·exact Nat.le_of_not_le fun h2=>hz ⟨hP,h2⟩
    ·exact hm y e hP
  ·obtain⟨x,hx,hp⟩:=h;rcases List.mem_cons.1 hx with rfl|e
   ·refine⟨x,List.mem_cons_self ..,hp,fun y hy hP=>?_⟩;rcases List.mem_cons.1 hy with rfl|e
    ·exact Nat.le_refl _
    ·exact(hl ⟨y,e,hP⟩).elim
   ·exact(hl ⟨x,e,hp⟩).elim
theorem ZbL{budget:Int}(hF:FindIs a b budget ps 0):∃r,ps=prsM (Z0 a) (Z0 b) r/\Maps a b r:=by
 rcases hF with⟨h1,_,e⟩|⟨_,_,_,e⟩|⟨hv,hst,F,c,hs,he⟩
 ·exact(h1 e.symm).elim
 ·cases e
 ·obtain⟨dA,dB⟩:=Jx hv;unfold Z4O at he;split at he
  ·split at he
   ·rename_i r m hr;injection he with h1 _;have hp:=Z2y (Z0 a).length [] (leftM budget) List.nodup_nil (fun y hy=>by cases hy) hr;have hrl:r.length=(Z0 a).length:=by rw[hp.len];simp
    have f1:((prsM (Z0 a) (Z0 b) r).map Prod.fst).Perm (Z0 a):= .of_eq (ZbJ hrl)
    have f2:((prsM (Z0 a) (Z0 b) r).map Prod.snd).Nodup:=by
     rw[ZbK hrl];refine ZbH hp.nd fun x hx y hy e=>?_;have hx:=hp.lt x hx;have hy:=hp.lt y hy;rw[List.getD_eq_getElem?_getD,List.getD_eq_getElem?_getD,List.getElem?_eq_getElem (by rw[<-hst.2.1];exact hx),List.getElem?_eq_getElem (by rw[<-hst.2.1];exact hy)]at e;exact(List.getElem_inj (X2 b)).1 e
    have hn:=ZbI (Yo triQ dA.rise) f1 f2;have e1:a.map (renQ (prsM (Z0 a) (Z0 b) r))=a.map (V2 (prsM (Z0 a) (Z0 b) r)):=List.map_congr_left fun q hq=>Z8g f1 hq;refine⟨r,h1,hv,hrl,hst.2.1.symm,hp.nd,hp.lt,?_⟩;refine Z72 (by rw[e1];exact hn) (by rw[List.length_map,hst.1]) fun z hz=>?_;obtain⟨q,hq,rfl⟩:=List.mem_map.1 hz;by_cases hbl:∃t∈ZC q,t.k=2
    ·obtain⟨t,ht,hk,hmax⟩:=ZdU (fun t:Tm=>(Z0 a).idxOf t.t) (fun t=>t.k=2) _ hbl;have hi:=List.idxOf_lt_length_of_mem (YZ hq ht hk);have hl:(r.take ((Z0 a).idxOf t.t+1)).length=(Z0 a).idxOf t.t+1:=by rw[List.length_take];omega
     have hf:=hp.fit ((Z0 a).idxOf t.t+1) (by simp) (by omega);rw[ZdR (by omega) hl,Bool.not_eq_true',List.any_eq_false]at hf
     have hall:allQ (prsM (Z0 a) (Z0 b) (r.take ((Z0 a).idxOf t.t+1))) q=true:=by
      unfold allQ;rw[List.all_eq_true];intro t' ht';by_cases hk':t'.k=2
      ·have hm':=hmax t' ht' hk';have hi':=List.idxOf_lt_length_of_mem (YZ hq ht' hk');have:=Z78 (B:=Z0 b) (X2 a) (zs:=r.take ((Z0 a).idxOf t.t+1)) (i:=(Z0 a).idxOf t'.t) (by rw[hl];omega) hi';rw[List.getElem_idxOf hi']at this;rw[this];simp
      ·simp[hk']
     have hin:inQ ((Z0 a)[(Z0 a).idxOf t.t]) q=true:=by
      unfold inQ;rw[List.any_eq_true];exact⟨t,ht,by rw[List.getElem_idxOf hi];simp[hk]⟩
     have:=hf q hq;unfold Zbs at this;rw[hin,hall,Z8f (X2 a) hall]at this;simpa using this
    ·have hno:∀t∈ZC q, ¬t.k=2:=fun t ht hk=>hbl ⟨t,ht,hk⟩;have e2:renQ (prsM (Z0 a) (Z0 b) r) q=q:=WB (f:=renT _) (g:=id) fun t ht=>Z6e (hno t ht);rw[e2];have:q∈gndM a:=List.mem_filter.2 ⟨hq,by rw[List.all_eq_true];intro t ht;simpa using hno t ht⟩;rw[hst.2.2]at this;exact(List.mem_filter.1 this).1
   ·injection he with _ h2;cases h2
   ·injection he with _ h2;cases h2
  ·injection he with _ h2;cases h2
theorem Z17{budget:Int}(hF:FindIs a b budget ps 0):Bij a b ps:=by
 obtain⟨r,rfl,h⟩:=ZbL hF;exact h.bij
theorem Bij.find{budget e:Int}{qs:List Pr}(h:Bij a b ps)(hF:FindIs a b budget qs e):(e=4/\qs=[]/\0< (Z0 a).length)\/e=0:=by
 obtain⟨zs,hm,_⟩:=h.maps;rcases hm.find hF with h1|h1
 ·exact .inl h1
 ·exact .inr h1.1
end
end Go.Proofs.YtbfbokdccdagkaaGreatDoor
