/- Part 24: FindT, FindU, FindV, FindX. Conditions: as each part says. -/
import Derived.Test.YtbfbokdccdagkaaGreatDoorUnm19
import Derived.Test.YtbfbokdccdagkaaGreatDoorUnm21
import Derived.Test.YtbfbokdccdagkaaGreatDoorUnm23
set_option linter.unusedVariables false
set_option linter.unusedSimpArgs false
set_option maxRecDepth 20000
set_option maxHeartbeats 8000000
namespace Go.Proofs.YtbfbokdccdagkaaGreatDoor
open Go.Sx Go.Our
structure Maps(a b:List Qd)(zs:List Nat):Prop where
 hv:X6 a b=0
 len:zs.length=(Z0 a).length
 lb:(Z0 b).length=(Z0 a).length
 nd:zs.Nodup
 lt:∀z∈zs,z< (Z0 a).length
 img:b.Perm (a.map (renQ (prsM (Z0 a) (Z0 b) zs)))
theorem X8(l:List Qd):(Z0 l).Nodup:=Ye triL (Xy triL _)
theorem Zce{ps:List Pr}{t:Tm}(h:¬t.k=2):renT ps t=t:=if_neg h
theorem WN(ps:List Pr)(t:Tm):(renT ps t).k=t.k:=by unfold renT;split<;>rfl
theorem Z8y(ps:List Pr)(q:Qd):Zw (renQ ps q)=(Zw q).map (renT ps):=rfl
theorem U5{l:List Nat}{i:Nat}(h:i<l.length):l.getD i 0=l[i]:=by rw[List.getD_eq_getElem?_getD,List.getElem?_eq_getElem h];rfl
theorem Zcf{A B:List LB}(hA:A.Nodup){zs:List Nat}{k:Nat}{s:LB}(hs:(toOf (prsM A B (zs.take k)) s).isSome=true):toOf (prsM A B zs) s=toOf (prsM A B (zs.take k)) s:=by
 by_cases hm:s∈A
 ·have hi:=List.idxOf_lt_length_of_mem hm;by_cases hk:A.idxOf s< (zs.take k).length
  ·have hk2:A.idxOf s<zs.length:=by rw[List.length_take]at hk;omega
   have e1:=Z9z (B:=B) hA hk hi;have e2:=Z9z (B:=B) hA hk2 hi;rw[List.getElem_idxOf hi]at e1 e2;rw[e1,e2,List.getElem_take]
  ·rw[ZdF]at hs
   ·cases hs
   ·intro i hi2 hi3 e;rw[<-e,hA.idxOf_getElem i hi2]at hk;omega
 ·rw[ZdF]at hs
  ·cases hs
  ·exact fun i hi _ e=>hm (e▸List.getElem_mem hi)
theorem ZdR{A B:List LB}(hA:A.Nodup){zs:List Nat}{k:Nat}{q:Qd}(hq:allQ (prsM A B (zs.take k)) q=true):renQ (prsM A B (zs.take k)) q=renQ (prsM A B zs) q:=by
 unfold allQ at hq;rw[List.all_eq_true]at hq
 have k1:∀t∈Zw q,renT (prsM A B (zs.take k)) t=renT (prsM A B zs) t:=fun t ht=>by
  unfold renT;by_cases hk:t.k=2
  ·rw[if_pos hk,if_pos hk,<-Zcf hA (k:=k) (zs:=zs) (by simpa[hk]using hq t ht)]
  ·rw[if_neg hk,if_neg hk]
 unfold renQ;rw[k1 q.s (by simp[Zw]),k1 q.p (by simp[Zw]),k1 q.o (by simp[Zw]),k1 q.g (by simp[Zw])]
section
variable {a b:List Qd}{zs:List Nat}(h:Maps a b zs)
include h
theorem Maps.yes{q:Qd}(hq:q∈a){t:Tm}(ht:t∈Zw q)(hk:t.k=2):∃i,∃(hi:i<zs.length) (hA:i< (Z0 a).length) (hB:zs[i]< (Z0 b).length),t.t=(Z0 a)[i]/\numM (ixF 0 (Z0 a)) t=(i:Int)/\renT (prsM (Z0 a) (Z0 b) zs) t={t with t:=(Z0 b)[zs[i]]}/\numM (ixF (Z0 a).length (Z0 b)) (renT (prsM (Z0 a) (Z0 b) zs) t)=(((Z0 a).length+zs[i]:Nat):Int):=by
 have hm:=X4 hq ht hk;have hA:=List.idxOf_lt_length_of_mem hm;have hi:(Z0 a).idxOf t.t<zs.length:=by rw[h.len];exact hA
 have hB:zs[(Z0 a).idxOf t.t]< (Z0 b).length:=by rw[h.lb];exact h.lt _ (List.getElem_mem hi)
 have hr:renT (prsM (Z0 a) (Z0 b) zs) t={t with t:=(Z0 b)[zs[(Z0 a).idxOf t.t]]}:=by
  have:=Z9z (B:=Z0 b) (X8 a) hi hA;rw[List.getElem_idxOf hA]at this;unfold renT;rw[if_pos hk,this,Option.getD_some,List.getD_eq_getElem?_getD,List.getElem?_eq_getElem hB];rfl
 refine⟨_,hi,hA,hB,(List.getElem_idxOf hA).symm,?_,hr,?_⟩
 ·unfold numM;rw[if_pos hk,Z6q hm];omega
 ·rw[hr];unfold numM;rw[if_pos hk,Z6q (List.getElem_mem hB)];show((Z0 a).length:Int)+(((Z0 b).idxOf (Z0 b)[zs[(Z0 a).idxOf t.t]]:Nat):Int)=_
  rw[(X8 b).idxOf_getElem _ hB];omega
def InvC(zs:List Nat)(n:Nat)(cl:List Int):Prop:=∀i,i<n->cl.getD i 0=cl.getD (n+zs.getD i 0) 0
theorem Maps.see{cl:List Int}(hc:InvC zs (Z0 a).length cl){i:Nat}(hi:i< (Z0 a).length){q:Qd}(hq:q∈a){t:Tm}(ht:t∈Zw q):
 seeM cl ((Z0 a).length+zs.getD i 0) (numM (ixF (Z0 a).length (Z0 b)) (renT (prsM (Z0 a) (Z0 b) zs) t)) (renT (prsM (Z0 a) (Z0 b) zs) t)=seeM cl i (numM (ixF 0 (Z0 a)) t) t:=by
 by_cases hk:t.k=2
 ·obtain⟨j,hj,hA,hB,h1,h2,h3,h4⟩:=h.yes hq ht hk;have hiz:i<zs.length:=by rw[h.len];exact hi
  rw[h4,h2,U5 hiz];unfold seeM;rw[if_neg (show ¬(((Z0 a).length+zs[j]:Nat):Int)<0 by omega),if_neg (show ¬(j:Int)<0 by omega)];by_cases e:j=i
  ·subst e;rw[if_pos rfl,if_pos rfl]
  ·have hne:¬zs[j]=zs[i]:=fun h5=>by
    have h6:=h.nd.idxOf_getElem j hj;rw[h5,h.nd.idxOf_getElem i hiz]at h6;exact e h6.symm
   rw[if_neg (show ¬(((Z0 a).length+zs[j]:Nat):Int)=(((Z0 a).length+zs[i]:Nat):Int)by omega),if_neg (show ¬(j:Int)=(i:Int)by omega),Int.toNat_natCast,Int.toNat_natCast];have:=hc j hA;rw[U5 hj]at this;rw[this]
 ·rw[Zce hk];have e1:∀f:LB->Int,numM f t= -1:=fun f=>if_neg hk;rw[e1,e1];unfold seeM;rw[if_pos (by omega),if_pos (by omega)]
theorem Maps.sg{cl:List Int}(hc:InvC zs (Z0 a).length cl){i:Nat}(hi:i< (Z0 a).length){q:Qd}(hq:q∈a):
 sgM cl ((Z0 a).length+zs.getD i 0) (sdM (ixF (Z0 a).length (Z0 b)) (renQ (prsM (Z0 a) (Z0 b) zs) q))=sgM cl i (sdM (ixF 0 (Z0 a)) q):=by
 unfold sgM sdM renQ;simp only;rw[h.see hc hi hq (t:=q.s) (by simp[Zw]),h.see hc hi hq (t:=q.p) (by simp[Zw]),h.see hc hi hq (t:=q.o) (by simp[Zw]),h.see hc hi hq (t:=q.g) (by simp[Zw])]
theorem Maps.own{i:Nat}(hi:i< (Z0 a).length){q:Qd}(hq:q∈a):((((Z0 a).length+zs.getD i 0:Nat):Int)∈ownM (ixF (Z0 a).length (Z0 b)) (renQ (prsM (Z0 a) (Z0 b) zs) q))<->((i:Int)∈ownM (ixF 0 (Z0 a)) q):=by
 have hiz:i<zs.length:=by rw[h.len];exact hi
 rw[own_mem,own_mem,Z8y,U5 hiz];have num_of:∀(f:LB->Int) (t:Tm),t.k=2->numM f t=f t.t:=fun f t hk=>if_pos hk;constructor
 ·rintro⟨t',ht',hk,he⟩;obtain⟨t,ht,rfl⟩:=List.mem_map.1 ht';rw[WN]at hk;obtain⟨j,hj,hA,hB,h1,h2,h3,h4⟩:=h.yes hq ht hk;have e2:=num_of (ixF (Z0 a).length (Z0 b)) (renT (prsM (Z0 a) (Z0 b) zs) t) (by rw[WN];exact hk);rw[<-e2,h4]at he;have hji:zs[j]=zs[i]:=by omega
  have h6:=h.nd.idxOf_getElem j hj;rw[hji,h.nd.idxOf_getElem i hiz]at h6;subst h6;exact⟨t,ht,hk,by rw[<-num_of (ixF 0 (Z0 a)) t hk,h2]⟩
 ·rintro⟨t,ht,hk,he⟩;obtain⟨j,hj,hA,hB,h1,h2,h3,h4⟩:=h.yes hq ht hk;rw[<-num_of (ixF 0 (Z0 a)) t hk,h2]at he;have hji:j=i:=by omega
  subst hji;exact⟨_,List.mem_map_of_mem ht,by rw[WN];exact hk,by rw[<-num_of (ixF (Z0 a).length (Z0 b)) (renT (prsM (Z0 a) (Z0 b) zs) t) (by rw[WN];exact hk),h4]⟩
theorem Maps.sights{cl:List Int}(hc:InvC zs (Z0 a).length cl){i:Nat}(hi:i< (Z0 a).length):(Yg cl (ins2 a b) ((Z0 a).length+zs.getD i 0)).Perm (Yg cl (ins2 a b) i):=by
 have hiz:i<zs.length:=by rw[h.len];exact hi
 have hx:(Z0 a).length+zs.getD i 0< (ins2 a b).length:=by rw[VC,h.lb,U5 hiz];have:=h.lt _ (List.getElem_mem hiz);omega
 have hg:(ins2 a b).getD ((Z0 a).length+zs.getD i 0) []=(b.filter fun q=>decide ((((Z0 a).length+zs.getD i 0:Nat):Int)∈ownM (ixF (Z0 a).length (Z0 b)) q)).map (sdM (ixF (Z0 a).length (Z0 b))):=by
  rw[<-Zc3 (by omega) hx];generalize(Z0 a).length+zs.getD i 0=x at hx⊢;rw[List.getD_eq_getElem?_getD,List.getElem?_eq_getElem hx];rfl
 unfold Yg;rw[Z4Y hi,hg,List.map_map,List.map_map];refine((h.img.filter _).map _).trans ?_;rw[List.filter_map,List.map_map]
 have e1:a.filter ((fun q=>decide ((((Z0 a).length+zs.getD i 0:Nat):Int)∈ownM (ixF (Z0 a).length (Z0 b)) q))∘renQ (prsM (Z0 a) (Z0 b) zs))=a.filter fun q=>decide ((i:Int)∈ownM (ixF 0 (Z0 a)) q):=by
  refine List.filter_congr fun q hq=>?_;simp only[Function.comp_apply];rw[Bool.eq_iff_iff,decide_eq_true_iff,decide_eq_true_iff];exact h.own hi hq
 rw[e1];refine List.Perm.of_eq (List.map_congr_left fun q hq=>?_);simp only[Function.comp_apply];exact h.sg hc hi (List.mem_filter.1 hq).1
theorem Maps.next{cl:List Int}(hc:InvC zs (Z0 a).length cl)(hp:∀c∈cl,0<=c)(hl:cl.length=(Z0 a).length+(Z0 b).length):InvC zs (Z0 a).length (YS (Yf cl (ins2 a b))):=by
 intro i hi;have hiz:i<zs.length:=by rw[h.len];exact hi
 have hz:=h.lt _ (List.getElem_mem hiz);have hk:keyM cl (ins2 a b) i=keyM cl (ins2 a b) ((Z0 a).length+zs.getD i 0):=(Z7n hp _ _ _).2 ⟨hc i hi,(h.sights hc hi).symm⟩;have h1:i< (Yf cl (ins2 a b)).length:=by rw[WH,hl];omega
 have h2:(Z0 a).length+zs.getD i 0< (Yf cl (ins2 a b)).length:=by rw[WH,hl,h.lb,U5 hiz];omega
 unfold YS;rw[List.getD_eq_getElem?_getD,List.getD_eq_getElem?_getD,List.getElem?_map,List.getElem?_map,List.getElem?_eq_getElem h1,List.getElem?_eq_getElem h2,Z4V,Z4V,hk]
theorem Maps.settle{cl:List Int}{ct:Int}{F:List Int}{c:Int}(hs:Settles (ins2 a b) cl ct F c):InvC zs (Z0 a).length cl->WOK cl (ins2 a b)->InvC zs (Z0 a).length F:=by
 induction hs with
 |stop _=>exact fun hc hw=>h.next hc (fun c hm=>(hw.cs c hm).1) (by rw[<-hw.len,VC])
 |go _ _ ih=>exact fun hc hw=>ih (h.next hc (fun c hm=>(hw.cs c hm).1) (by rw[<-hw.len,VC])) hw.next.1
theorem Maps.perm:zs.Perm (List.range (Z0 a).length):=
 (Zbu h.nd (by rw[List.length_range,h.len]) fun z hz=>List.mem_range.2 (h.lt z hz)).symm
theorem Maps.even{F:List Int}(hc:InvC zs (Z0 a).length F)(hF:F.length=2*(Z0 a).length):Z7s F (Z0 a).length:=by
 have h1:F.take (Z0 a).length=zs.map fun z=>F.getD ((Z0 a).length+z) 0:=by
  apply List.ext_getElem (by rw[List.length_take,List.length_map,h.len];omega);intro i hi hi2;rw[List.length_map]at hi2;have hi3:i< (Z0 a).length:=by rw[<-h.len];exact hi2
  have:=hc i hi3;rw[U5 hi2]at this;rw[List.getElem_take,List.getElem_map,<-this,List.getD_eq_getElem?_getD,List.getElem?_eq_getElem (by omega)];rfl
 have h2:F.drop (Z0 a).length=(List.range (Z0 a).length).map fun z=>F.getD ((Z0 a).length+z) 0:=by
  apply List.ext_getElem (by rw[List.length_drop,List.length_map,List.length_range];omega);intro i hi hi2;rw[List.length_map,List.length_range]at hi2;rw[List.getElem_drop,List.getElem_map,List.getElem_range,List.getD_eq_getElem?_getD,List.getElem?_eq_getElem (by omega)];rfl
 intro k;rw[h1,h2];exact(h.perm.map _).count_eq k
theorem Maps.stat:Z3U a b:=by
 obtain⟨dA,dB⟩:=U2 h.hv;refine⟨by rw[h.img.length_eq,List.length_map],h.lb.symm,?_⟩
 have hp:(gndM b).Perm (gndM a):=by
  unfold gndM;refine(h.img.filter _).trans ?_;rw[List.filter_map]
  have e1:a.filter ((fun q=>(Zw q).all fun t=>!decide (t.k=2))∘renQ (prsM (Z0 a) (Z0 b) zs))=a.filter fun q=>(Zw q).all fun t=>!decide (t.k=2):=by
   refine List.filter_congr fun q hq=>?_;simp only[Function.comp_apply,Z8y,List.all_map];congr 1;funext t;simp only[Function.comp_apply,WN]
  rw[e1];refine List.Perm.of_eq ((List.map_congr_left fun q hq=>?_).trans (List.map_id _));have hq:=(List.mem_filter.1 hq).2;rw[List.all_eq_true]at hq;have hn:∀t∈Zw q,renT (prsM (Z0 a) (Z0 b) zs) t=t:=fun t ht=>Zce (by simpa using hq t ht);show renQ _ q=q
  unfold renQ;rw[hn q.s (by simp[Zw]),hn q.p (by simp[Zw]),hn q.o (by simp[Zw]),hn q.g (by simp[Zw])]
 have so:∀{l:List Qd},Rise ZH l->(gndM l).Pairwise fun x y=>ZH x y<=0:=fun hr=>(List.Pairwise.sublist List.filter_sublist hr).imp fun h=>by omega
 exact(Us triQ (so dB.rise) (so dA.rise) hp).symm
theorem Maps.path{F:List Int}(hc:InvC zs (Z0 a).length F):Path (Z0 a).length (okM F (Z0 a).length) (fitM (Z0 a++Z0 b) (Z0 a).length b (ins2 a b)) [] zs (Z0 a).length:=by
 refine⟨List.nil_prefix,by simp[h.len],h.nd,h.lt,fun i hi _=>?_,fun k hk hk2=>?_⟩
 ·unfold okM;have:=hc i (by rw[<-h.len];exact hi);rw[U5 hi]at this;exact decide_eq_true this
 ·simp only[List.length_nil]at hk;have hl:(zs.take k).length=(k-1)+1:=by rw[List.length_take];omega
  rw[ZgJ (by rw[hl,<-h.len];omega) hl,Bool.not_eq_true',List.any_eq_false];intro q hq hf;unfold ZdG at hf;simp only[Bool.and_eq_true,Bool.not_eq_true',decide_eq_false_iff_not]at hf;refine hf.2 ?_;rw[ZdR (X8 a) hf.1.2];exact h.img.mem_iff.2 (List.mem_map_of_mem hq)
theorem Maps.find{budget:Int}{ps:List Pr}{e:Int}(hF:FindIs a b budget ps e):(e=4/\ps=[]/\0< (Z0 a).length)\/
 (e=0/\∃r,ps=prsM (Z0 a) (Z0 b) r/\r.length=(Z0 a).length/\(∀x∈r,x< (Z0 a).length)/\∀(i x y:Nat),(∀j:Nat,j<i->r[j]?=zs[j]?)->r[i]?=some x->zs[i]?=some y->x<=y):=by
 rcases hF with⟨h1,_⟩|⟨_,h1,_⟩|⟨_,_,F,c,hs,he⟩
 ·exact(h1 h.hv).elim
 ·exact(h1 h.stat).elim
 ·obtain⟨dA,dB⟩:=U2 h.hv;have hW:=wok2 dA dB;have hok:=hs.ok hW
  have hc0:InvC zs (Z0 a).length (List.replicate ((Z0 a).length+(Z0 b).length) 0):=fun i hi=>by
   have hiz:i<zs.length:=by rw[h.len];exact hi
   have:=h.lt _ (List.getElem_mem hiz);rw[U5 hiz,List.getD_eq_getElem?_getD,List.getD_eq_getElem?_getD,List.getElem?_replicate,List.getElem?_replicate,if_pos (by omega),if_pos (by rw[h.lb];omega)]
  have hinv:=h.settle hs hc0 hW;have hFl:F.length=2*(Z0 a).length:=by rw[hok.2.1,List.length_replicate,h.lb];omega
  unfold Z7t at he;rw[if_pos (h.even hinv hFl)]at he;have hp:=h.path hinv;split at he
  ·rename_i r m hr;injection he with h1 h2;have hpr:=Z6t (Z0 a).length [] (leftM budget) List.nodup_nil (fun y hy=>by cases hy) hr;exact .inr ⟨h2,r,h1,by rw[hpr.len];simp,hpr.lt,Z3V _ _ _ hr zs hp⟩
  ·rename_i m hr;exact(W4 _ _ _ hr zs hp).elim
  ·rename_i hr;injection he with h1 h2;refine .inl ⟨h2,h1,?_⟩;rcases Nat.eq_zero_or_pos (Z0 a).length with h0|h0
   ·rw[h0]at hr;simp[Xi]at hr
   ·exact h0
end
end Go.Proofs.YtbfbokdccdagkaaGreatDoor
namespace Go.Proofs.YtbfbokdccdagkaaGreatDoor
open Go.Sx Go.Our
theorem ZgY{l:List Qd}(h:DsOK l):(XD l).2=0:=by
 have h1:∀(n i:Nat),l.length-i<=n->badM l i=none:=by
  intro n
  induction n with
  |zero=>intro i hi;exact Z07 (by omega)
  |succ n ih=>
   intro i hi;by_cases hl:i<l.length
   ·rw[Z60 hl,if_neg (by rw[h.ck _ (List.getElem_mem hl)];simp)];exact ih _ (by omega)
   ·exact Z07 (by omega)
 have h2:∀(n i:Nat),l.length-i<=n->1<=i->Z08 l i=none:=by
  intro n
  induction n with
  |zero=>intro i hi _;exact WB (by omega)
  |succ n ih=>
   intro i hi h1;by_cases hl:i<l.length
   ·have:=Z86 h.rise (i:=i-1) (j:=i) (by omega) hl;rw[Z4z hl,if_neg (by omega)];exact ih _ (by omega) (by omega)
   ·exact WB (by omega)
 unfold XD;rw[if_neg (by have:=h.few;omega),h1 _ 0 (Nat.le_refl _),h2 _ 1 (Nat.le_refl _) (Nat.le_refl _)]
theorem Zeu{a b:List Qd}(dA:DsOK a)(dB:DsOK b):X6 a b=0:=by
 unfold X6;rw[ZgY dA,ZgY dB];rfl
theorem Z54{α:Type}[DecidableEq α]:∀{x l:List α},x.Nodup->l.Nodup->(∀z,z∈x<->z∈l)->x.Perm l
 | [],l,_,_,h=>by
   have:l=[]:=List.eq_nil_iff_forall_not_mem.2 fun z hz=>by simpa using(h z).2 hz
   rw[this]
 |z::x,l,hn,hl,h=>by
  have hn':=List.nodup_cons.1 hn;have hz:z∈l:=(h z).1 (List.mem_cons_self ..);refine .trans (.cons z (Z54 hn'.2 (hl.erase z) fun w=>?_)) (List.perm_cons_erase hz).symm;rw[hl.mem_erase_iff,<-h w,List.mem_cons];constructor
  ·exact fun hw=>⟨fun e=>hn'.1 (e▸hw), .inr hw⟩
  ·rintro⟨h1,h2⟩;exact h2.resolve_left h1
theorem Zev{α β:Type}{f:α->β}{l:List α}(hl:l.Nodup)(hf:∀x∈l,∀y∈l,f x=f y->x=y):(l.map f).Nodup:=by
 unfold List.Nodup at*;rw[List.pairwise_map];exact hl.imp_of_mem fun hx hy hne e=>hne (hf _ hx _ hy e)
theorem Zcg{ps:List Pr}{s u:LB}(h:toOf ps s=some u):(s,u)∈ps:=by
 unfold toOf at h;obtain⟨p,hp,rfl⟩:=Option.map_eq_some_iff.1 h;have h1:=List.find?_some hp;have h2:=List.mem_of_find?_eq_some hp;have h1:p.1=s:=by simpa using h1
 subst h1;exact h2
theorem XV{ps:List Pr}{s u:LB}(hn:(ps.map Prod.fst).Nodup)(h:(s,u)∈ps):toOf ps s=some u:=by
 induction ps with
 |nil=>cases h
 |cons p ps ih=>
  rw[List.map_cons]at hn;have hn':=List.nodup_cons.1 hn;rw[Z2I];rcases List.mem_cons.1 h with e|e
  ·subst e;rw[if_pos rfl]
  ·rw[if_neg (fun e2=>hn'.1 (by rw[e2];exact List.mem_map.2 ⟨_,e,rfl⟩))];exact ih hn'.2 e
structure Bij(a b:List Qd)(ps:List Pr):Prop where
 va:DsOK a
 vb:DsOK b
 fs:(ps.map Prod.fst).Perm (Z0 a)
 sn:(ps.map Prod.snd).Perm (Z0 b)
 img:b.Perm (a.map (XB ps))
def Z6u(ps:List Pr):List Pr:=ps.map fun p=>(p.2,p.1)
theorem Z55(ps:List Pr):(Z6u ps).map Prod.fst=ps.map Prod.snd:=by unfold Z6u;rw[List.map_map];rfl
theorem U6{ps:List Pr}{t:Tm}(h:¬t.k=2):ZO ps t=t:=if_neg h
theorem Jb{ps:List Pr}{t:Tm}{u:LB}(h:t.k=2)(hu:toOf ps t.t=some u):ZO ps t={t with t:=u}:=by unfold ZO;rw[if_pos h,hu]
theorem Z6v(ps:List Pr)(q:Qd):Zw (XB ps q)=(Zw q).map (ZO ps):=rfl
theorem Z1l{f g:Tm->Tm}{q:Qd}(h:∀t∈Zw q,f t=g t):(⟨f q.s,f q.p,f q.o,f q.g⟩:Qd)=⟨g q.s,g q.p,g q.o,g q.g⟩:=by
 rw[h q.s (by simp[Zw]),h q.p (by simp[Zw]),h q.o (by simp[Zw]),h q.g (by simp[Zw])]
section
variable {a b c:List Qd}{ps:List Pr}
theorem WO(h:(ps.map Prod.fst).Perm (Z0 a)){s:LB}(hs:s∈Z0 a):∃u,(s,u)∈ps/\toOf ps s=some u:=by
 obtain⟨p,hp,rfl⟩:=List.mem_map.1 (h.mem_iff.2 hs);exact⟨p.2,hp,XV (h.symm.nodup (X8 a)) hp⟩
theorem Z6w(h:(ps.map Prod.fst).Perm (Z0 a))(hn:(ps.map Prod.snd).Nodup){q:Qd}(hq:q∈a):XB (Z6u ps) (XB ps q)=q:=by
 have:∀t∈Zw q,ZO (Z6u ps) (ZO ps t)=t:=fun t ht=>by
  by_cases hk:t.k=2
  ·obtain⟨u,hu,e⟩:=WO h (X4 hq ht hk);have e2:toOf (Z6u ps) u=some t.t:=XV (by rw[Z55];exact hn) (List.mem_map.2 ⟨_,hu,rfl⟩);rw[Jb hk e,Jb (by exact hk) e2]
  ·rw[U6 hk,U6 hk]
 exact Z1l (f:=fun t=>ZO (Z6u ps) (ZO ps t)) (g:=id) this
theorem Zch(hr:a.Nodup)(h:(ps.map Prod.fst).Perm (Z0 a))(hn:(ps.map Prod.snd).Nodup):(a.map (XB ps)).Nodup:=
 Zev hr fun x hx y hy e=>by rw[<-Z6w h hn hx,e,Z6w h hn hy]
theorem check_iff:checkM a b ps=0<->Bij a b ps:=by
 have rA:=Xy triL (ZD a);have rB:=Xy triL (ZD b);constructor
 ·intro h;unfold checkM at h;split at h
  ·rename_i h1;exact(h1 h).elim
  ·rename_i h1;split at h
   ·rename_i h2;obtain⟨dA,dB⟩:=U2 (a:=a) (b:=b) (by simpa using h1);obtain⟨h3,h4⟩:=h2;unfold bijM at h3;simp only[Bool.and_eq_true,decide_eq_true_eq]at h3;have f1:=(Z1e triL rA).1 h3.1.2;have f2:=(Z1e triL rB).1 h3.2;refine⟨dA,dB,f1,f2,Z54 (Ye triQ dB.rise) (Zch (Ye triQ dA.rise) f1 (f2.symm.nodup (X8 b))) fun z=>?_⟩;rw[<-h4,J8]
   ·cases h
 ·intro h;unfold checkM;rw[if_neg (by rw[Zeu h.va h.vb];simp),if_pos];have l1:=h.fs.length_eq;have l2:=h.sn.length_eq;rw[List.length_map]at l1 l2;refine⟨?_,?_⟩
  ·unfold bijM;simp only[Bool.and_eq_true,decide_eq_true_eq];exact⟨⟨⟨l1,by omega⟩,(Z1e triL rA).2 h.fs⟩,(Z1e triL rB).2 h.sn⟩
  ·exact(ZaG triQ h.vb.rise fun z=>h.img.mem_iff).symm
def Z7y(p q:List Pr):List Pr:=p.map fun x=>(x.1,(toOf q x.2).getD [])
theorem Bij.comp{qs:List Pr}(h:Bij a b ps)(h2:Bij b c qs):Bij a c (Z7y ps qs):=by
 have nd2:(qs.map Prod.fst).Nodup:=h2.fs.symm.nodup (X8 b);have e1:(Z7y ps qs).map Prod.fst=ps.map Prod.fst:=by unfold Z7y;rw[List.map_map];rfl
 have e2:(Z7y ps qs).map Prod.snd=(ps.map Prod.snd).map fun s=>(toOf qs s).getD []:=by unfold Z7y;rw[List.map_map,List.map_map];rfl
 have nd1:((Z7y ps qs).map Prod.fst).Nodup:=by rw[e1];exact h.fs.symm.nodup (X8 a)
 refine⟨h.va,h2.vb,by rw[e1];exact h.fs,?_,?_⟩
 ·rw[e2];refine((h.sn.trans h2.fs.symm).map _).trans (.trans (.of_eq ?_) h2.sn);rw[List.map_map];refine List.map_congr_left fun x hx=>?_;show(toOf qs x.1).getD []=x.2
  rw[XV nd2 (u:=x.2) hx];rfl
 ·refine h2.img.trans ((h.img.map _).trans (.of_eq ?_));rw[List.map_map];refine List.map_congr_left fun q hq=>?_
  have:∀t∈Zw q,ZO qs (ZO ps t)=ZO (Z7y ps qs) t:=fun t ht=>by
   by_cases hk:t.k=2
   ·obtain⟨u,hu,e⟩:=WO h.fs (X4 hq ht hk);obtain⟨w,hw,e'⟩:=WO h2.fs (h.sn.mem_iff.1 (List.mem_map.2 ⟨_,hu,rfl⟩));rw[Jb hk e,Jb (by exact hk) e',Jb hk (XV nd1 (List.mem_map.2 ⟨_,hu,rfl⟩))];show Tm.mk _ w _ _=Tm.mk _ ((toOf qs u).getD []) _ _
    rw[e'];rfl
   ·rw[U6 hk,U6 hk,U6 hk]
  exact Z1l (f:=fun t=>ZO qs (ZO ps t)) this
theorem Bij.maps(h:Bij a b ps):∃zs,Maps a b zs/\∀s∈Z0 a,toOf (prsM (Z0 a) (Z0 b) zs) s=toOf ps s:=by
 have l1:=h.fs.length_eq;have l2:=h.sn.length_eq;rw[List.length_map]at l1 l2;have nd1:(ps.map Prod.fst).Nodup:=h.fs.symm.nodup (X8 a);have nd2:(ps.map Prod.snd).Nodup:=h.sn.symm.nodup (X8 b)
 have key:∀s∈Z0 a,∃u,toOf ps s=some u/\(s,u)∈ps/\u∈Z0 b:=fun s hs=>by
  obtain⟨u,hu,e⟩:=WO h.fs hs;exact⟨u,e,hu,h.sn.mem_iff.1 (List.mem_map.2 ⟨_,hu,rfl⟩)⟩
 have same:∀s∈Z0 a,toOf (prsM (Z0 a) (Z0 b) ((Z0 a).map fun s=>(Z0 b).idxOf ((toOf ps s).getD []))) s=toOf ps s:=fun s hs=>by
  obtain⟨u,e,hu,hm⟩:=key s hs;have hi:=List.idxOf_lt_length_of_mem hs;have:=Z9z (B:=Z0 b) (X8 a) (zs:=(Z0 a).map fun s=>(Z0 b).idxOf ((toOf ps s).getD [])) (i:=(Z0 a).idxOf s) (by rw[List.length_map];exact hi) hi;rw[List.getElem_map,List.getElem_idxOf hi,e]at this;rw[this,e];have hb:=List.idxOf_lt_length_of_mem hm;rw[Option.getD_some,List.getD_eq_getElem?_getD,List.getElem?_eq_getElem hb,List.getElem_idxOf hb];rfl
 refine⟨_,⟨Zeu h.va h.vb,List.length_map ..,by omega,?_,?_,?_⟩,same⟩
 ·refine Zev (X8 a) fun x hx y hy e=>?_;obtain⟨u,e1,hu,hm⟩:=key x hx;obtain⟨w,e2,hw,hm2⟩:=key y hy;rw[e1,e2,Option.getD_some,Option.getD_some]at e;have h1:=List.getElem_idxOf (List.idxOf_lt_length_of_mem hm);have h2:=List.getElem_idxOf (List.idxOf_lt_length_of_mem hm2);have huw:u=w:=by rw[<-h1,<-h2];congr 1
  subst huw;have t1:=XV (ps:=Z6u ps) (s:=u) (u:=x) (by rw[Z55];exact nd2) (List.mem_map.2 ⟨_,hu,rfl⟩);have t2:=XV (ps:=Z6u ps) (s:=u) (u:=y) (by rw[Z55];exact nd2) (List.mem_map.2 ⟨_,hw,rfl⟩);rw[t1]at t2;injection t2
 ·intro z hz;obtain⟨s,hs,rfl⟩:=List.mem_map.1 hz;obtain⟨u,e,hu,hm⟩:=key s hs;have:=List.idxOf_lt_length_of_mem hm;rw[e,Option.getD_some];omega
 ·refine h.img.trans (.of_eq (List.map_congr_left fun q hq=>?_));refine Z1l (f:=ZO ps) (g:=renT _) fun t ht=>?_;by_cases hk:t.k=2
  ·obtain⟨u,e,hu,hm⟩:=key _ (X4 hq ht hk);rw[Jb hk e];unfold renT;rw[if_pos hk,same _ (X4 hq ht hk),e];rfl
  ·rw[U6 hk,Zce hk]
theorem Bij.find{budget e:Int}{qs:List Pr}(h:Bij a b ps)(hF:FindIs a b budget qs e):(e=4/\qs=[]/\0< (Z0 a).length)\/e=0:=by
 obtain⟨zs,hm,_⟩:=h.maps;rcases hm.find hF with h1|h1
 ·exact .inl h1
 ·exact .inr h1.1
end
def Z6x(u:LB):Prop:=u.length<=65536/\VY u=0
theorem Zew{t:Tm}(hk:t.k=2)(h:Go.Our.checkM t=0):(t.y=[]/\t.l=[])/\Z6x t.t:=by
 unfold Go.Our.checkM at h;rw[if_pos (.inr hk)]at h;split at h
 ·cases h
 ·rename_i h1;rw[if_neg (by rw[hk];decide)]at h;split at h
  ·cases h
  ·rename_i h2;refine⟨⟨Decidable.byContradiction fun e=>h1 (.inl e),Decidable.byContradiction fun e=>h1 (.inr e)⟩,by omega,h⟩
theorem ZgZ{t:Tm}(hk:t.k=2)(hy:t.y=[])(hl:t.l=[])(h:Z6x t.t):Go.Our.checkM t=0:=by
 unfold Go.Our.checkM;rw[if_pos (.inr hk),if_neg (by rw[hy,hl];simp),if_neg (by rw[hk];decide),if_neg (by have:=h.1;omega)];exact h.2
theorem Z9G{q:Qd}(h:X5 q=0){t:Tm}(ht:t∈Zw q)(hk:t.k=2):Go.Our.checkM t=0:=by
 unfold X5 at h;split at h
 ·cases h
 split at h
 ·exact absurd h ‹_›
 split at h
 ·cases h
 split at h
 ·exact absurd h ‹_›
 split at h
 ·exact absurd h ‹_›
 simp only[Zw,List.mem_cons,List.not_mem_nil,or_false]at ht;rcases ht with rfl|rfl|rfl|rfl
 ·exact Decidable.byContradiction ‹_›
 ·exact Decidable.byContradiction ‹_›
 ·exact Decidable.byContradiction ‹_›
 ·split at h
  ·rename_i e;rw[e]at hk;cases hk
  ·split at h
   ·cases h
   ·exact h
theorem Z7z{l:List Qd}{u:LB}(hu:u∈Z0 l):∃q∈l,∃t∈Zw q,t.k=2/\t.t=u:=by
 obtain⟨q,hq,h⟩:=List.mem_flatMap.1 ((J8 _ _).1 hu);unfold YA at h
 have key:∀{t:Tm},u∈Ym t->t.k=2/\t.t=u:=fun{t} h=>by
  unfold Ym at h;split at h
  ·exact⟨‹_›,(List.mem_singleton.1 h).symm⟩
  ·cases h
 simp only[List.mem_append]at h;rcases h with((h|h)|h)|h
 ·exact⟨q,hq,q.s,by simp[Zw],key h⟩
 ·exact⟨q,hq,q.p,by simp[Zw],key h⟩
 ·exact⟨q,hq,q.o,by simp[Zw],key h⟩
 ·exact⟨q,hq,q.g,by simp[Zw],key h⟩
theorem Zex{l:List Qd}(d:DsOK l){u:LB}(hu:u∈Z0 l):Z6x u:=by
 obtain⟨q,hq,t,ht,hk,rfl⟩:=Z7z hu;exact(Zew hk (Z9G (d.ck q hq) ht hk)).2
theorem Uw{ps:List Pr}{t:Tm}(h:Go.Our.checkM t=0)(hu:t.k=2->∃u,toOf ps t.t=some u/\Z6x u):Go.Our.checkM (ZO ps t)=0:=by
 by_cases hk:t.k=2
 ·obtain⟨u,e,hl⟩:=hu hk;rw[Jb hk e];have:=(Zew hk h).1;exact ZgZ hk this.1 this.2 hl
 ·rw[U6 hk];exact h
theorem Z8z(ps:List Pr)(t:Tm):(ZO ps t).k=t.k:=by
 unfold ZO;split
 ·split<;>rfl
 ·rfl
theorem Z9H{ps:List Pr}{q:Qd}(h:X5 q=0)(hu:∀t∈Zw q,t.k=2->∃u,toOf ps t.t=some u/\Z6x u):X5 (XB ps q)=0:=by
 have hg:(ZO ps q.g=Y6)<->q.g=Y6:=by
  constructor
  ·intro e;by_cases hk:q.g.k=2
   ·have:=Z8z ps q.g;rw[e,hk]at this;cases this
   ·rwa [U6 hk]at e
  ·intro e;rw[e];exact U6 (by decide)
 unfold X5 at h⊢
 show(if ¬((ZO ps q.s).k=1\/(ZO ps q.s).k=2)then 70 else if Go.Our.checkM (ZO ps q.s)≠0 then Go.Our.checkM (ZO ps q.s)else
 if ¬(ZO ps q.p).k=1 then 70 else if Go.Our.checkM (ZO ps q.p)≠0 then Go.Our.checkM (ZO ps q.p)else
 if Go.Our.checkM (ZO ps q.o)≠0 then Go.Our.checkM (ZO ps q.o)else
 if ZO ps q.g=Y6 then 0 else if ¬((ZO ps q.g).k=1\/(ZO ps q.g).k=2)then 70 else Go.Our.checkM (ZO ps q.g))=0
 simp only[Z8z,hg];split at h
 ·cases h
 rename_i h1;rw[if_neg h1];split at h
 ·exact absurd h ‹_›
 rename_i h2;rw[if_neg (fun e=>e (Uw (Decidable.byContradiction h2) (hu _ (by simp[Zw]))))];split at h
 ·cases h
 rename_i h3;rw[if_neg h3];split at h
 ·exact absurd h ‹_›
 rename_i h4;rw[if_neg (fun e=>e (Uw (Decidable.byContradiction h4) (hu _ (by simp[Zw]))))];split at h
 ·exact absurd h ‹_›
 rename_i h5;rw[if_neg (fun e=>e (Uw (Decidable.byContradiction h5) (hu _ (by simp[Zw]))))];split at h
 ·rw[if_pos ‹_›]
 rename_i h6;rw[if_neg h6];split at h
 ·cases h
 rename_i h7;rw[if_neg h7];exact Uw h (hu _ (by simp[Zw]))
theorem Zfx{l:List Qd}{ps:List Pr}(d:DsOK l)(fs:(ps.map Prod.fst).Perm (Z0 l))(nd:(ps.map Prod.snd).Nodup)(ok:∀u∈ps.map Prod.snd,Z6x u):Bij l (setL ZH (l.map (XB ps))) ps:=by
 have hu:∀q∈l,∀t∈Zw q,t.k=2->∃u,(t.t,u)∈ps/\toOf ps t.t=some u/\Z6x u:=fun q hq t ht hk=>by
  obtain⟨u,h1,h2⟩:=WO fs (X4 hq ht hk);exact⟨u,h1,h2,ok u (List.mem_map.2 ⟨_,h1,rfl⟩)⟩
 have hr:=Xy triQ (l.map (XB ps));have hl:=JA (c:=ZH) (l.map (XB ps));rw[List.length_map]at hl;refine⟨d,⟨hr,Nat.le_trans hl d.few,fun q hq=>?_⟩,fs,Z54 nd (X8 _) fun u=>?_,Z54 (Ye triQ hr) (Zch (Ye triQ d.rise) fs nd) fun z=>J8 _ _⟩
 ·obtain⟨q0,hq0,rfl⟩:=List.mem_map.1 ((J8 _ _).1 hq);refine Z9H (d.ck q0 hq0) fun t ht hk=>?_;obtain⟨u,_,h2,h3⟩:=hu q0 hq0 t ht hk;exact⟨u,h2,h3⟩
 ·constructor
  ·intro hm;obtain⟨p,hp,rfl⟩:=List.mem_map.1 hm;have h1:p.1∈Z0 l:=fs.mem_iff.1 (List.mem_map.2 ⟨p,hp,rfl⟩);obtain⟨q,hq,t,ht,hk,he⟩:=Z7z h1;have e:toOf ps t.t=some p.2:=by rw[he];exact XV (fs.symm.nodup (X8 l)) hp
   have:=X4 (l:=setL ZH (l.map (XB ps))) ((J8 _ _).2 (List.mem_map.2 ⟨q,hq,rfl⟩)) (t:=ZO ps t) (by rw[Z6v];exact List.mem_map_of_mem ht) (by rw[Z8z];exact hk);rw[Jb hk e]at this;exact this
  ·intro hm;obtain⟨q,hq,t,ht,hk,rfl⟩:=Z7z hm;obtain⟨q0,hq0,rfl⟩:=List.mem_map.1 ((J8 _ _).1 hq);rw[Z6v]at ht;obtain⟨t0,ht0,rfl⟩:=List.mem_map.1 ht;rw[Z8z]at hk;obtain⟨u,h1,h2,_⟩:=hu q0 hq0 t0 ht0 hk;rw[Jb hk h2];exact List.mem_map.2 ⟨_,h1,rfl⟩
theorem Zfy{A T:List LB}(h:T.length=A.length):(A.zip T).map Prod.fst=A:=by
 apply List.ext_getElem (by rw[List.length_map,List.length_zip];omega);intro i h1 h2;simp
theorem Zfz{A T:List LB}(h:T.length=A.length):(A.zip T).map Prod.snd=T:=by
 apply List.ext_getElem (by rw[List.length_map,List.length_zip];omega);intro i h1 h2;simp
end Go.Proofs.YtbfbokdccdagkaaGreatDoor
