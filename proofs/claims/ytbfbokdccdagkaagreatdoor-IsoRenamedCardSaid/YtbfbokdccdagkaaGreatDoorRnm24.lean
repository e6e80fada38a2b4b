/- Part 24: FindT, FindU, FindV, FindX. Conditions: as each part says. -/
import Derived.Test.YtbfbokdccdagkaaGreatDoorRnm19
import Derived.Test.YtbfbokdccdagkaaGreatDoorRnm21
import Derived.Test.YtbfbokdccdagkaaGreatDoorRnm23
set_option linter.unusedVariables false
set_option linter.unusedSimpArgs false
set_option maxRecDepth 20000
set_option maxHeartbeats 8000000
namespace Go.Proofs.YtbfbokdccdagkaaGreatDoor
open Go.Sx Go.Our
structure Maps(a b:List Qd)(zs:List Nat):Prop where
 hv:Xr a b=0
 len:zs.length=(Z0 a).length
 lb:(Z0 b).length=(Z0 a).length
 nd:zs.Nodup
 lt:∀z∈zs,z< (Z0 a).length
 img:b.Perm (a.map (renQ (prsM (Z0 a) (Z0 b) zs)))
theorem YB(l:List Qd):(Z0 l).Nodup:=Y5 triL (X4 triL _)
theorem Z3W{ps:List Pr}{t:Tm}(h:¬t.k=2):renT ps t=t:=if_neg h
theorem Jg(ps:List Pr)(t:Tm):(renT ps t).k=t.k:=by unfold renT;split<;>rfl
theorem Z5d(ps:List Pr)(q:Qd):Zt (renQ ps q)=(Zt q).map (renT ps):=rfl
theorem U4{l:List Nat}{i:Nat}(h:i<l.length):l.getD i 0=l[i]:=by rw[List.getD_eq_getElem?_getD,List.getElem?_eq_getElem h];rfl
theorem Zcb{A B:List LB}(hA:A.Nodup){zs:List Nat}{k:Nat}{s:LB}(hs:(toOf (prsM A B (zs.take k)) s).isSome=true):toOf (prsM A B zs) s=toOf (prsM A B (zs.take k)) s:=by
 by_cases hm:s∈A
 ·have hi:=List.idxOf_lt_length_of_mem hm;by_cases hk:A.idxOf s< (zs.take k).length
  ·have hk2:A.idxOf s<zs.length:=by rw[List.length_take]at hk;omega
   have e1:=Z7w (B:=B) hA hk hi;have e2:=Z7w (B:=B) hA hk2 hi;rw[List.getElem_idxOf hi]at e1 e2;rw[e1,e2,List.getElem_take]
  ·rw[ZdD]at hs
   ·cases hs
   ·intro i hi2 hi3 e;rw[<-e,hA.idxOf_getElem i hi2]at hk;omega
 ·rw[ZdD]at hs
  ·cases hs
  ·exact fun i hi _ e=>hm (e▸List.getElem_mem hi)
theorem Z8F{A B:List LB}(hA:A.Nodup){zs:List Nat}{k:Nat}{q:Qd}(hq:allQ (prsM A B (zs.take k)) q=true):renQ (prsM A B (zs.take k)) q=renQ (prsM A B zs) q:=by
 unfold allQ at hq;rw[List.all_eq_true]at hq
 have k1:∀t∈Zt q,renT (prsM A B (zs.take k)) t=renT (prsM A B zs) t:=fun t ht=>by
  unfold renT;by_cases hk:t.k=2
  ·rw[if_pos hk,if_pos hk,<-Zcb hA (k:=k) (zs:=zs) (by simpa[hk]using hq t ht)]
  ·rw[if_neg hk,if_neg hk]
 unfold renQ;rw[k1 q.s (by simp[Zt]),k1 q.p (by simp[Zt]),k1 q.o (by simp[Zt]),k1 q.g (by simp[Zt])]
section
variable {a b:List Qd}{zs:List Nat}(h:Maps a b zs)
include h
theorem Maps.yes{q:Qd}(hq:q∈a){t:Tm}(ht:t∈Zt q)(hk:t.k=2):∃i,∃(hi:i<zs.length) (hA:i< (Z0 a).length) (hB:zs[i]< (Z0 b).length),t.t=(Z0 a)[i]/\numM (ixF 0 (Z0 a)) t=(i:Int)/\renT (prsM (Z0 a) (Z0 b) zs) t={t with t:=(Z0 b)[zs[i]]}/\numM (ixF (Z0 a).length (Z0 b)) (renT (prsM (Z0 a) (Z0 b) zs) t)=(((Z0 a).length+zs[i]:Nat):Int):=by
 have hm:=YA hq ht hk;have hA:=List.idxOf_lt_length_of_mem hm;have hi:(Z0 a).idxOf t.t<zs.length:=by rw[h.len];exact hA
 have hB:zs[(Z0 a).idxOf t.t]< (Z0 b).length:=by rw[h.lb];exact h.lt _ (List.getElem_mem hi)
 have hr:renT (prsM (Z0 a) (Z0 b) zs) t={t with t:=(Z0 b)[zs[(Z0 a).idxOf t.t]]}:=by
  have:=Z7w (B:=Z0 b) (YB a) hi hA;rw[List.getElem_idxOf hA]at this;unfold renT;rw[if_pos hk,this,Option.getD_some,List.getD_eq_getElem?_getD,List.getElem?_eq_getElem hB];rfl
 refine⟨_,hi,hA,hB,(List.getElem_idxOf hA).symm,?_,hr,?_⟩
 ·unfold numM;rw[if_pos hk,Z56 hm];omega
 ·rw[hr];unfold numM;rw[if_pos hk,Z56 (List.getElem_mem hB)];show((Z0 a).length:Int)+(((Z0 b).idxOf (Z0 b)[zs[(Z0 a).idxOf t.t]]:Nat):Int)=_
  rw[(YB b).idxOf_getElem _ hB];omega
def InvC(zs:List Nat)(n:Nat)(cl:List Int):Prop:=∀i,i<n->cl.getD i 0=cl.getD (n+zs.getD i 0) 0
theorem Maps.see{cl:List Int}(hc:InvC zs (Z0 a).length cl){i:Nat}(hi:i< (Z0 a).length){q:Qd}(hq:q∈a){t:Tm}(ht:t∈Zt q):
 seeM cl ((Z0 a).length+zs.getD i 0) (numM (ixF (Z0 a).length (Z0 b)) (renT (prsM (Z0 a) (Z0 b) zs) t)) (renT (prsM (Z0 a) (Z0 b) zs) t)=seeM cl i (numM (ixF 0 (Z0 a)) t) t:=by
 by_cases hk:t.k=2
 ·obtain⟨j,hj,hA,hB,h1,h2,h3,h4⟩:=h.yes hq ht hk;have hiz:i<zs.length:=by rw[h.len];exact hi
  rw[h4,h2,U4 hiz];unfold seeM;rw[if_neg (show ¬(((Z0 a).length+zs[j]:Nat):Int)<0 by omega),if_neg (show ¬(j:Int)<0 by omega)];by_cases e:j=i
  ·subst e;rw[if_pos rfl,if_pos rfl]
  ·have hne:¬zs[j]=zs[i]:=fun h5=>by
    have h6:=h.nd.idxOf_getElem j hj;rw[h5,h.nd.idxOf_getElem i hiz]at h6;exact e h6.symm
   rw[if_neg (show ¬(((Z0 a).length+zs[j]:Nat):Int)=(((Z0 a).length+zs[i]:Nat):Int)by omega),if_neg (show ¬(j:Int)=(i:Int)by omega),Int.toNat_natCast,Int.toNat_natCast];have:=hc j hA;rw[U4 hj]at this;rw[this]
 ·rw[Z3W hk];have e1:∀f:LB->Int,numM f t= -1:=fun f=>if_neg hk;rw[e1,e1];unfold seeM;rw[if_pos (by omega),if_pos (by omega)]
theorem Maps.sg{cl:List Int}(hc:InvC zs (Z0 a).length cl){i:Nat}(hi:i< (Z0 a).length){q:Qd}(hq:q∈a):
 sgM cl ((Z0 a).length+zs.getD i 0) (sdM (ixF (Z0 a).length (Z0 b)) (renQ (prsM (Z0 a) (Z0 b) zs) q))=sgM cl i (sdM (ixF 0 (Z0 a)) q):=by
 unfold sgM sdM renQ;simp only;rw[h.see hc hi hq (t:=q.s) (by simp[Zt]),h.see hc hi hq (t:=q.p) (by simp[Zt]),h.see hc hi hq (t:=q.o) (by simp[Zt]),h.see hc hi hq (t:=q.g) (by simp[Zt])]
theorem Maps.own{i:Nat}(hi:i< (Z0 a).length){q:Qd}(hq:q∈a):((((Z0 a).length+zs.getD i 0:Nat):Int)∈ownM (ixF (Z0 a).length (Z0 b)) (renQ (prsM (Z0 a) (Z0 b) zs) q))<->((i:Int)∈ownM (ixF 0 (Z0 a)) q):=by
 have hiz:i<zs.length:=by rw[h.len];exact hi
 rw[own_mem,own_mem,Z5d,U4 hiz];have num_of:∀(f:LB->Int) (t:Tm),t.k=2->numM f t=f t.t:=fun f t hk=>if_pos hk;constructor
 ·rintro⟨t',ht',hk,he⟩;obtain⟨t,ht,rfl⟩:=List.mem_map.1 ht';rw[Jg]at hk;obtain⟨j,hj,hA,hB,h1,h2,h3,h4⟩:=h.yes hq ht hk;have e2:=num_of (ixF (Z0 a).length (Z0 b)) (renT (prsM (Z0 a) (Z0 b) zs) t) (by rw[Jg];exact hk);rw[<-e2,h4]at he;have hji:zs[j]=zs[i]:=by omega
  have h6:=h.nd.idxOf_getElem j hj;rw[hji,h.nd.idxOf_getElem i hiz]at h6;subst h6;exact⟨t,ht,hk,by rw[<-num_of (ixF 0 (Z0 a)) t hk,h2]⟩
 ·rintro⟨t,ht,hk,he⟩;obtain⟨j,hj,hA,hB,h1,h2,h3,h4⟩:=h.yes hq ht hk;rw[<-num_of (ixF 0 (Z0 a)) t hk,h2]at he;have hji:j=i:=by omega
  subst hji;exact⟨_,List.mem_map_of_mem ht,by rw[Jg];exact hk,by rw[<-num_of (ixF (Z0 a).length (Z0 b)) (renT (prsM (Z0 a) (Z0 b) zs) t) (by rw[Jg];exact hk),h4]⟩
theorem Maps.sights{cl:List Int}(hc:InvC zs (Z0 a).length cl){i:Nat}(hi:i< (Z0 a).length):(Y1 cl (ins2 a b) ((Z0 a).length+zs.getD i 0)).Perm (Y1 cl (ins2 a b) i):=by
 have hiz:i<zs.length:=by rw[h.len];exact hi
 have hx:(Z0 a).length+zs.getD i 0< (ins2 a b).length:=by rw[VA,h.lb,U4 hiz];have:=h.lt _ (List.getElem_mem hiz);omega
 have hg:(ins2 a b).getD ((Z0 a).length+zs.getD i 0) []=(b.filter fun q=>decide ((((Z0 a).length+zs.getD i 0:Nat):Int)∈ownM (ixF (Z0 a).length (Z0 b)) q)).map (sdM (ixF (Z0 a).length (Z0 b))):=by
  rw[<-ZbZ (by omega) hx];generalize(Z0 a).length+zs.getD i 0=x at hx⊢;rw[List.getD_eq_getElem?_getD,List.getElem?_eq_getElem hx];rfl
 unfold Y1;rw[Z57 hi,hg,List.map_map,List.map_map];refine((h.img.filter _).map _).trans ?_;rw[List.filter_map,List.map_map]
 have e1:a.filter ((fun q=>decide ((((Z0 a).length+zs.getD i 0:Nat):Int)∈ownM (ixF (Z0 a).length (Z0 b)) q))∘renQ (prsM (Z0 a) (Z0 b) zs))=a.filter fun q=>decide ((i:Int)∈ownM (ixF 0 (Z0 a)) q):=by
  refine List.filter_congr fun q hq=>?_;simp only[Function.comp_apply];rw[Bool.eq_iff_iff,decide_eq_true_iff,decide_eq_true_iff];exact h.own hi hq
 rw[e1];refine List.Perm.of_eq (List.map_congr_left fun q hq=>?_);simp only[Function.comp_apply];exact h.sg hc hi (List.mem_filter.1 hq).1
theorem Maps.next{cl:List Int}(hc:InvC zs (Z0 a).length cl)(hp:∀c∈cl,0<=c)(hl:cl.length=(Z0 a).length+(Z0 b).length):InvC zs (Z0 a).length (Yq (Ya cl (ins2 a b))):=by
 intro i hi;have hiz:i<zs.length:=by rw[h.len];exact hi
 have hz:=h.lt _ (List.getElem_mem hiz);have hk:keyM cl (ins2 a b) i=keyM cl (ins2 a b) ((Z0 a).length+zs.getD i 0):=(Z2y hp _ _ _).2 ⟨hc i hi,(h.sights hc hi).symm⟩;have h1:i< (Ya cl (ins2 a b)).length:=by rw[WK,hl];omega
 have h2:(Z0 a).length+zs.getD i 0< (Ya cl (ins2 a b)).length:=by rw[WK,hl,h.lb,U4 hiz];omega
 unfold Yq;rw[List.getD_eq_getElem?_getD,List.getD_eq_getElem?_getD,List.getElem?_map,List.getElem?_map,List.getElem?_eq_getElem h1,List.getElem?_eq_getElem h2,Z53,Z53,hk]
theorem Maps.settle{cl:List Int}{ct:Int}{F:List Int}{c:Int}(hs:Settles (ins2 a b) cl ct F c):InvC zs (Z0 a).length cl->WOK cl (ins2 a b)->InvC zs (Z0 a).length F:=by
 induction hs with
 |stop _=>exact fun hc hw=>h.next hc (fun c hm=>(hw.cs c hm).1) (by rw[<-hw.len,VA])
 |go _ _ ih=>exact fun hc hw=>ih (h.next hc (fun c hm=>(hw.cs c hm).1) (by rw[<-hw.len,VA])) hw.next.1
theorem Maps.perm:zs.Perm (List.range (Z0 a).length):=
 (Z7p h.nd (by rw[List.length_range,h.len]) fun z hz=>List.mem_range.2 (h.lt z hz)).symm
theorem Maps.even{F:List Int}(hc:InvC zs (Z0 a).length F)(hF:F.length=2*(Z0 a).length):Z7x F (Z0 a).length:=by
 have h1:F.take (Z0 a).length=zs.map fun z=>F.getD ((Z0 a).length+z) 0:=by
  apply List.ext_getElem (by rw[List.length_take,List.length_map,h.len];omega);intro i hi hi2;rw[List.length_map]at hi2;have hi3:i< (Z0 a).length:=by rw[<-h.len];exact hi2
  have:=hc i hi3;rw[U4 hi2]at this;rw[List.getElem_take,List.getElem_map,<-this,List.getD_eq_getElem?_getD,List.getElem?_eq_getElem (by omega)];rfl
 have h2:F.drop (Z0 a).length=(List.range (Z0 a).length).map fun z=>F.getD ((Z0 a).length+z) 0:=by
  apply List.ext_getElem (by rw[List.length_drop,List.length_map,List.length_range];omega);intro i hi hi2;rw[List.length_map,List.length_range]at hi2;rw[List.getElem_drop,List.getElem_map,List.getElem_range,List.getD_eq_getElem?_getD,List.getElem?_eq_getElem (by omega)];rfl
 intro k;rw[h1,h2];exact(h.perm.map _).count_eq k
theorem Maps.stat:Z3U a b:=by
 obtain⟨dA,dB⟩:=JF h.hv;refine⟨by rw[h.img.length_eq,List.length_map],h.lb.symm,?_⟩
 have hp:(gndM b).Perm (gndM a):=by
  unfold gndM;refine(h.img.filter _).trans ?_;rw[List.filter_map]
  have e1:a.filter ((fun q=>(Zt q).all fun t=>!decide (t.k=2))∘renQ (prsM (Z0 a) (Z0 b) zs))=a.filter fun q=>(Zt q).all fun t=>!decide (t.k=2):=by
   refine List.filter_congr fun q hq=>?_;simp only[Function.comp_apply,Z5d,List.all_map];congr 1;funext t;simp only[Function.comp_apply,Jg]
  rw[e1];refine List.Perm.of_eq ((List.map_congr_left fun q hq=>?_).trans (List.map_id _));have hq:=(List.mem_filter.1 hq).2;rw[List.all_eq_true]at hq;have hn:∀t∈Zt q,renT (prsM (Z0 a) (Z0 b) zs) t=t:=fun t ht=>Z3W (by simpa using hq t ht);show renQ _ q=q
  unfold renQ;rw[hn q.s (by simp[Zt]),hn q.p (by simp[Zt]),hn q.o (by simp[Zt]),hn q.g (by simp[Zt])]
 have so:∀{l:List Qd},Rise ZE l->(gndM l).Pairwise fun x y=>ZE x y<=0:=fun hr=>(List.Pairwise.sublist List.filter_sublist hr).imp fun h=>by omega
 exact(Uq triQ (so dB.rise) (so dA.rise) hp).symm
theorem Maps.path{F:List Int}(hc:InvC zs (Z0 a).length F):Path (Z0 a).length (okM F (Z0 a).length) (fitM (Z0 a++Z0 b) (Z0 a).length b (ins2 a b)) [] zs (Z0 a).length:=by
 refine⟨List.nil_prefix,by simp[h.len],h.nd,h.lt,fun i hi _=>?_,fun k hk hk2=>?_⟩
 ·unfold okM;have:=hc i (by rw[<-h.len];exact hi);rw[U4 hi]at this;exact decide_eq_true this
 ·simp only[List.length_nil]at hk;have hl:(zs.take k).length=(k-1)+1:=by rw[List.length_take];omega
  rw[Zez (by rw[hl,<-h.len];omega) hl,Bool.not_eq_true',List.any_eq_false];intro q hq hf;unfold ZbX at hf;simp only[Bool.and_eq_true,Bool.not_eq_true',decide_eq_false_iff_not]at hf;refine hf.2 ?_;rw[Z8F (YB a) hf.1.2];exact h.img.mem_iff.2 (List.mem_map_of_mem hq)
theorem Maps.find{budget:Int}{ps:List Pr}{e:Int}(hF:FindIs a b budget ps e):(e=4/\ps=[]/\0< (Z0 a).length)\/
 (e=0/\∃r,ps=prsM (Z0 a) (Z0 b) r/\r.length=(Z0 a).length/\(∀x∈r,x< (Z0 a).length)/\∀(i x y:Nat),(∀j:Nat,j<i->r[j]?=zs[j]?)->r[i]?=some x->zs[i]?=some y->x<=y):=by
 rcases hF with⟨h1,_⟩|⟨_,h1,_⟩|⟨_,_,F,c,hs,he⟩
 ·exact(h1 h.hv).elim
 ·exact(h1 h.stat).elim
 ·obtain⟨dA,dB⟩:=JF h.hv;have hW:=wok2 dA dB;have hok:=hs.ok hW
  have hc0:InvC zs (Z0 a).length (List.replicate ((Z0 a).length+(Z0 b).length) 0):=fun i hi=>by
   have hiz:i<zs.length:=by rw[h.len];exact hi
   have:=h.lt _ (List.getElem_mem hiz);rw[U4 hiz,List.getD_eq_getElem?_getD,List.getD_eq_getElem?_getD,List.getElem?_replicate,List.getElem?_replicate,if_pos (by omega),if_pos (by rw[h.lb];omega)]
  have hinv:=h.settle hs hc0 hW;have hFl:F.length=2*(Z0 a).length:=by rw[hok.2.1,List.length_replicate,h.lb];omega
  unfold Z59 at he;rw[if_pos (h.even hinv hFl)]at he;have hp:=h.path hinv;split at he
  ·rename_i r m hr;injection he with h1 h2;have hpr:=Z2J (Z0 a).length [] (leftM budget) List.nodup_nil (fun y hy=>by cases hy) hr;exact .inr ⟨h2,r,h1,by rw[hpr.len];simp,hpr.lt,Z3V _ _ _ hr zs hp⟩
  ·rename_i m hr;exact(W8 _ _ _ hr zs hp).elim
  ·rename_i hr;injection he with h1 h2;refine .inl ⟨h2,h1,?_⟩;rcases Nat.eq_zero_or_pos (Z0 a).length with h0|h0
   ·rw[h0]at hr;simp[Xk]at hr
   ·exact h0
end
end Go.Proofs.YtbfbokdccdagkaaGreatDoor
namespace Go.Proofs.YtbfbokdccdagkaaGreatDoor
open Go.Sx Go.Our
theorem Zha{l:List Qd}(h:DsOK l):(YN l).2=0:=by
 have h1:∀(n i:Nat),l.length-i<=n->badM l i=none:=by
  intro n
  induction n with
  |zero=>intro i hi;exact Z06 (by omega)
  |succ n ih=>
   intro i hi;by_cases hl:i<l.length
   ·rw[Z6a hl,if_neg (by rw[h.ck _ (List.getElem_mem hl)];simp)];exact ih _ (by omega)
   ·exact Z06 (by omega)
 have h2:∀(n i:Nat),l.length-i<=n->1<=i->Z07 l i=none:=by
  intro n
  induction n with
  |zero=>intro i hi _;exact WD (by omega)
  |succ n ih=>
   intro i hi h1;by_cases hl:i<l.length
   ·have:=Z8a h.rise (i:=i-1) (j:=i) (by omega) hl;rw[Z4H hl,if_neg (by omega)];exact ih _ (by omega) (by omega)
   ·exact WD (by omega)
 unfold YN;rw[if_neg (by have:=h.few;omega),h1 _ 0 (Nat.le_refl _),h2 _ 1 (Nat.le_refl _) (Nat.le_refl _)]
theorem ZeC{a b:List Qd}(dA:DsOK a)(dB:DsOK b):Xr a b=0:=by
 unfold Xr;rw[Zha dA,Zha dB];rfl
theorem Z5e{α:Type}[DecidableEq α]:∀{x l:List α},x.Nodup->l.Nodup->(∀z,z∈x<->z∈l)->x.Perm l
 | [],l,_,_,h=>by
   have:l=[]:=List.eq_nil_iff_forall_not_mem.2 fun z hz=>by simpa using(h z).2 hz
   rw[this]
 |z::x,l,hn,hl,h=>by
  have hn':=List.nodup_cons.1 hn;have hz:z∈l:=(h z).1 (List.mem_cons_self ..);refine .trans (.cons z (Z5e hn'.2 (hl.erase z) fun w=>?_)) (List.perm_cons_erase hz).symm;rw[hl.mem_erase_iff,<-h w,List.mem_cons];constructor
  ·exact fun hw=>⟨fun e=>hn'.1 (e▸hw), .inr hw⟩
  ·rintro⟨h1,h2⟩;exact h2.resolve_left h1
theorem Zcc{α β:Type}{f:α->β}{l:List α}(hl:l.Nodup)(hf:∀x∈l,∀y∈l,f x=f y->x=y):(l.map f).Nodup:=by
 unfold List.Nodup at*;rw[List.pairwise_map];exact hl.imp_of_mem fun hx hy hne e=>hne (hf _ hx _ hy e)
theorem VB{ps:List Pr}{s u:LB}(hn:(ps.map Prod.fst).Nodup)(h:(s,u)∈ps):toOf ps s=some u:=by
 induction ps with
 |nil=>cases h
 |cons p ps ih=>
  rw[List.map_cons]at hn;have hn':=List.nodup_cons.1 hn;rw[Z2F];rcases List.mem_cons.1 h with e|e
  ·subst e;rw[if_pos rfl]
  ·rw[if_neg (fun e2=>hn'.1 (by rw[e2];exact List.mem_map.2 ⟨_,e,rfl⟩))];exact ih hn'.2 e
structure Bij(a b:List Qd)(ps:List Pr):Prop where
 va:DsOK a
 vb:DsOK b
 fs:(ps.map Prod.fst).Perm (Z0 a)
 sn:(ps.map Prod.snd).Perm (Z0 b)
 img:b.Perm (a.map (Xb ps))
def VC(ps:List Pr):List Pr:=ps.map fun p=>(p.2,p.1)
theorem Z1k(ps:List Pr):(VC ps).map Prod.fst=ps.map Prod.snd:=by unfold VC;rw[List.map_map];rfl
theorem ZdO(ps:List Pr):(VC ps).map Prod.snd=ps.map Prod.fst:=by unfold VC;rw[List.map_map];rfl
theorem UL{ps:List Pr}{t:Tm}(h:¬t.k=2):ZP ps t=t:=if_neg h
theorem V0{ps:List Pr}{t:Tm}{u:LB}(h:t.k=2)(hu:toOf ps t.t=some u):ZP ps t={t with t:=u}:=by unfold ZP;rw[if_pos h,hu]
theorem Z6C(ps:List Pr)(q:Qd):Zt (Xb ps q)=(Zt q).map (ZP ps):=rfl
theorem WR{f g:Tm->Tm}{q:Qd}(h:∀t∈Zt q,f t=g t):(⟨f q.s,f q.p,f q.o,f q.g⟩:Qd)=⟨g q.s,g q.p,g q.o,g q.g⟩:=by
 rw[h q.s (by simp[Zt]),h q.p (by simp[Zt]),h q.o (by simp[Zt]),h q.g (by simp[Zt])]
section
variable {a b c:List Qd}{ps:List Pr}
theorem Uv(h:(ps.map Prod.fst).Perm (Z0 a)){s:LB}(hs:s∈Z0 a):∃u,(s,u)∈ps/\toOf ps s=some u:=by
 obtain⟨p,hp,rfl⟩:=List.mem_map.1 (h.mem_iff.2 hs);exact⟨p.2,hp,VB (h.symm.nodup (YB a)) hp⟩
theorem Z2K(h:(ps.map Prod.fst).Perm (Z0 a))(hn:(ps.map Prod.snd).Nodup){q:Qd}(hq:q∈a):Xb (VC ps) (Xb ps q)=q:=by
 have:∀t∈Zt q,ZP (VC ps) (ZP ps t)=t:=fun t ht=>by
  by_cases hk:t.k=2
  ·obtain⟨u,hu,e⟩:=Uv h (YA hq ht hk);have e2:toOf (VC ps) u=some t.t:=VB (by rw[Z1k];exact hn) (List.mem_map.2 ⟨_,hu,rfl⟩);rw[V0 hk e,V0 (by exact hk) e2]
  ·rw[UL hk,UL hk]
 exact WR (f:=fun t=>ZP (VC ps) (ZP ps t)) (g:=id) this
theorem Z7C(hr:a.Nodup)(h:(ps.map Prod.fst).Perm (Z0 a))(hn:(ps.map Prod.snd).Nodup):(a.map (Xb ps)).Nodup:=
 Zcc hr fun x hx y hy e=>by rw[<-Z2K h hn hx,e,Z2K h hn hy]
theorem check_iff:checkM a b ps=0<->Bij a b ps:=by
 have rA:=X4 triL (Y9 a);have rB:=X4 triL (Y9 b);constructor
 ·intro h;unfold checkM at h;split at h
  ·rename_i h1;exact(h1 h).elim
  ·rename_i h1;split at h
   ·rename_i h2;obtain⟨dA,dB⟩:=JF (a:=a) (b:=b) (by simpa using h1);obtain⟨h3,h4⟩:=h2;unfold bijM at h3;simp only[Bool.and_eq_true,decide_eq_true_eq]at h3;have f1:=(Z1d triL rA).1 h3.1.2;have f2:=(Z1d triL rB).1 h3.2;refine⟨dA,dB,f1,f2,Z5e (Y5 triQ dB.rise) (Z7C (Y5 triQ dA.rise) f1 (f2.symm.nodup (YB b))) fun z=>?_⟩;rw[<-h4,Jw]
   ·cases h
 ·intro h;unfold checkM;rw[if_neg (by rw[ZeC h.va h.vb];simp),if_pos];have l1:=h.fs.length_eq;have l2:=h.sn.length_eq;rw[List.length_map]at l1 l2;refine⟨?_,?_⟩
  ·unfold bijM;simp only[Bool.and_eq_true,decide_eq_true_eq];exact⟨⟨⟨l1,by omega⟩,(Z1d triL rA).2 h.fs⟩,(Z1d triL rB).2 h.sn⟩
  ·exact(Z5R triQ h.vb.rise fun z=>h.img.mem_iff).symm
theorem Bij.turn(h:Bij a b ps):Bij b a (VC ps):=by
 refine⟨h.vb,h.va,by rw[Z1k];exact h.sn,by rw[ZdO];exact h.fs,?_⟩;refine .trans (.of_eq ?_) (h.img.map (Xb (VC ps))).symm;rw[List.map_map];refine((List.map_congr_left fun q hq=>?_).trans (List.map_id _)).symm;exact Z2K h.fs (h.sn.symm.nodup (YB b)) hq
def Z7D(p q:List Pr):List Pr:=p.map fun x=>(x.1,(toOf q x.2).getD [])
theorem Bij.comp{qs:List Pr}(h:Bij a b ps)(h2:Bij b c qs):Bij a c (Z7D ps qs):=by
 have nd2:(qs.map Prod.fst).Nodup:=h2.fs.symm.nodup (YB b);have e1:(Z7D ps qs).map Prod.fst=ps.map Prod.fst:=by unfold Z7D;rw[List.map_map];rfl
 have e2:(Z7D ps qs).map Prod.snd=(ps.map Prod.snd).map fun s=>(toOf qs s).getD []:=by unfold Z7D;rw[List.map_map,List.map_map];rfl
 have nd1:((Z7D ps qs).map Prod.fst).Nodup:=by rw[e1];exact h.fs.symm.nodup (YB a)
 refine⟨h.va,h2.vb,by rw[e1];exact h.fs,?_,?_⟩
 ·rw[e2];refine((h.sn.trans h2.fs.symm).map _).trans (.trans (.of_eq ?_) h2.sn);rw[List.map_map];refine List.map_congr_left fun x hx=>?_;show(toOf qs x.1).getD []=x.2
  rw[VB nd2 (u:=x.2) hx];rfl
 ·refine h2.img.trans ((h.img.map _).trans (.of_eq ?_));rw[List.map_map];refine List.map_congr_left fun q hq=>?_
  have:∀t∈Zt q,ZP qs (ZP ps t)=ZP (Z7D ps qs) t:=fun t ht=>by
   by_cases hk:t.k=2
   ·obtain⟨u,hu,e⟩:=Uv h.fs (YA hq ht hk);obtain⟨w,hw,e'⟩:=Uv h2.fs (h.sn.mem_iff.1 (List.mem_map.2 ⟨_,hu,rfl⟩));rw[V0 hk e,V0 (by exact hk) e',V0 hk (VB nd1 (List.mem_map.2 ⟨_,hu,rfl⟩))];show Tm.mk _ w _ _=Tm.mk _ ((toOf qs u).getD []) _ _
    rw[e'];rfl
   ·rw[UL hk,UL hk,UL hk]
  exact WR (f:=fun t=>ZP qs (ZP ps t)) this
theorem Zcd{A B:List LB}{zs:List Nat}(h:zs.length=A.length):(prsM A B zs).map Prod.fst=A:=by
 unfold prsM;apply List.ext_getElem (by rw[List.length_map,List.length_zipWith];omega);intro i h1 h2;simp
theorem Zce{A B:List LB}{zs:List Nat}(h:zs.length=A.length):(prsM A B zs).map Prod.snd=zs.map fun z=>B.getD z []:=by
 unfold prsM;apply List.ext_getElem (by rw[List.length_map,List.length_zipWith,List.length_map];omega);intro i h1 h2;simp
theorem Z8G(h:(ps.map Prod.fst).Perm (Z0 a)){q:Qd}(hq:q∈a):renQ ps q=Xb ps q:=
 WR fun t ht=>by
  by_cases hk:t.k=2
  ·obtain⟨u,hu,e⟩:=Uv h (YA hq ht hk);rw[V0 hk e];unfold renT;rw[if_pos hk,e];rfl
  ·rw[UL hk];exact Z3W hk
theorem Maps.bij{zs:List Nat}(h:Maps a b zs):Bij a b (prsM (Z0 a) (Z0 b) zs):=by
 obtain⟨dA,dB⟩:=JF h.hv;have f1:((prsM (Z0 a) (Z0 b) zs).map Prod.fst).Perm (Z0 a):= .of_eq (Zcd h.len);refine⟨dA,dB,f1,?_,?_⟩
 ·rw[Zce h.len];refine(h.perm.map _).trans (.of_eq ?_);apply List.ext_getElem (by rw[List.length_map,List.length_range,h.lb]);intro i h1 h2;simp[h2]
 ·refine h.img.trans (.of_eq (List.map_congr_left fun q hq=>Z8G f1 hq))
theorem Bij.maps(h:Bij a b ps):∃zs,Maps a b zs/\∀s∈Z0 a,toOf (prsM (Z0 a) (Z0 b) zs) s=toOf ps s:=by
 have l1:=h.fs.length_eq;have l2:=h.sn.length_eq;rw[List.length_map]at l1 l2;have nd1:(ps.map Prod.fst).Nodup:=h.fs.symm.nodup (YB a);have nd2:(ps.map Prod.snd).Nodup:=h.sn.symm.nodup (YB b)
 have key:∀s∈Z0 a,∃u,toOf ps s=some u/\(s,u)∈ps/\u∈Z0 b:=fun s hs=>by
  obtain⟨u,hu,e⟩:=Uv h.fs hs;exact⟨u,e,hu,h.sn.mem_iff.1 (List.mem_map.2 ⟨_,hu,rfl⟩)⟩
 have same:∀s∈Z0 a,toOf (prsM (Z0 a) (Z0 b) ((Z0 a).map fun s=>(Z0 b).idxOf ((toOf ps s).getD []))) s=toOf ps s:=fun s hs=>by
  obtain⟨u,e,hu,hm⟩:=key s hs;have hi:=List.idxOf_lt_length_of_mem hs;have:=Z7w (B:=Z0 b) (YB a) (zs:=(Z0 a).map fun s=>(Z0 b).idxOf ((toOf ps s).getD [])) (i:=(Z0 a).idxOf s) (by rw[List.length_map];exact hi) hi;rw[List.getElem_map,List.getElem_idxOf hi,e]at this;rw[this,e];have hb:=List.idxOf_lt_length_of_mem hm;rw[Option.getD_some,List.getD_eq_getElem?_getD,List.getElem?_eq_getElem hb,List.getElem_idxOf hb];rfl
 refine⟨_,⟨ZeC h.va h.vb,List.length_map ..,by omega,?_,?_,?_⟩,same⟩
 ·refine Zcc (YB a) fun x hx y hy e=>?_;obtain⟨u,e1,hu,hm⟩:=key x hx;obtain⟨w,e2,hw,hm2⟩:=key y hy;rw[e1,e2,Option.getD_some,Option.getD_some]at e;have h1:=List.getElem_idxOf (List.idxOf_lt_length_of_mem hm);have h2:=List.getElem_idxOf (List.idxOf_lt_length_of_mem hm2);have huw:u=w:=by rw[<-h1,<-h2];congr 1
  subst huw;have t1:=VB (ps:=VC ps) (s:=u) (u:=x) (by rw[Z1k];exact nd2) (List.mem_map.2 ⟨_,hu,rfl⟩);have t2:=VB (ps:=VC ps) (s:=u) (u:=y) (by rw[Z1k];exact nd2) (List.mem_map.2 ⟨_,hw,rfl⟩);rw[t1]at t2;injection t2
 ·intro z hz;obtain⟨s,hs,rfl⟩:=List.mem_map.1 hz;obtain⟨u,e,hu,hm⟩:=key s hs;have:=List.idxOf_lt_length_of_mem hm;rw[e,Option.getD_some];omega
 ·refine h.img.trans (.of_eq (List.map_congr_left fun q hq=>?_));refine WR (f:=ZP ps) (g:=renT _) fun t ht=>?_;by_cases hk:t.k=2
  ·obtain⟨u,e,hu,hm⟩:=key _ (YA hq ht hk);rw[V0 hk e];unfold renT;rw[if_pos hk,same _ (YA hq ht hk),e];rfl
  ·rw[UL hk,Z3W hk]
theorem ZeD{α:Type}(f:α->Nat)(P:α->Prop):∀l:List α,(∃x∈l,P x)->∃x∈l,P x/\∀y∈l,P y->f y<=f x
 | [],h=>by obtain⟨x,hx,_⟩:=h;cases hx
 |z::l,h=>by
  by_cases hl:∃x∈l,P x
  ·obtain⟨x,hx,hp,hm⟩:=ZeD f P l hl;by_cases hz:P z/\f x<=f z
   ·refine⟨z,List.mem_cons_self ..,hz.1,fun y hy hP=>?_⟩;rcases List.mem_cons.1 hy with rfl|e
    ·exact Nat.le_refl _
    ·exact Nat.le_trans (hm y e hP) hz.2
   ·refine⟨x,List.mem_cons_of_mem _ hx,hp,fun y hy hP=>?_⟩;rcases List.mem_cons.1 hy with rfl|e
    ·exact Nat.le_of_not_le fun h2=>hz ⟨hP,h2⟩
    ·exact hm y e hP
  ·obtain⟨x,hx,hp⟩:=h;rcases List.mem_cons.1 hx with rfl|e
   ·refine⟨x,List.mem_cons_self ..,hp,fun y hy hP=>?_⟩;rcases List.mem_cons.1 hy with rfl|e
    ·exact Nat.le_refl _
    ·exact(hl ⟨y,e,hP⟩).elim
   ·exact(hl ⟨x,e,hp⟩).elim
theorem Zcf{budget:Int}(hF:FindIs a b budget ps 0):∃r,ps=prsM (Z0 a) (Z0 b) r/\Maps a b r:=by
 rcases hF with⟨h1,_,e⟩|⟨_,_,_,e⟩|⟨hv,hst,F,c,hs,he⟩
 ·exact(h1 e.symm).elim
 ·cases e
 ·obtain⟨dA,dB⟩:=JF hv;unfold Z59 at he;split at he
  ·split at he
   ·rename_i r m hr;injection he with h1 _;have hp:=Z2J (Z0 a).length [] (leftM budget) List.nodup_nil (fun y hy=>by cases hy) hr;have hrl:r.length=(Z0 a).length:=by rw[hp.len];simp
    have f1:((prsM (Z0 a) (Z0 b) r).map Prod.fst).Perm (Z0 a):= .of_eq (Zcd hrl)
    have f2:((prsM (Z0 a) (Z0 b) r).map Prod.snd).Nodup:=by
     rw[Zce hrl];refine Zcc hp.nd fun x hx y hy e=>?_;have hx:=hp.lt x hx;have hy:=hp.lt y hy;rw[List.getD_eq_getElem?_getD,List.getD_eq_getElem?_getD,List.getElem?_eq_getElem (by rw[<-hst.2.1];exact hx),List.getElem?_eq_getElem (by rw[<-hst.2.1];exact hy)]at e;exact(List.getElem_inj (YB b)).1 e
    have hn:=Z7C (Y5 triQ dA.rise) f1 f2;have e1:a.map (renQ (prsM (Z0 a) (Z0 b) r))=a.map (Xb (prsM (Z0 a) (Z0 b) r)):=List.map_congr_left fun q hq=>Z8G f1 hq;refine⟨r,h1,hv,hrl,hst.2.1.symm,hp.nd,hp.lt,?_⟩;refine Z7p (by rw[e1];exact hn) (by rw[List.length_map,hst.1]) fun z hz=>?_;obtain⟨q,hq,rfl⟩:=List.mem_map.1 hz;by_cases hbl:∃t∈Zt q,t.k=2
    ·obtain⟨t,ht,hk,hmax⟩:=ZeD (fun t:Tm=>(Z0 a).idxOf t.t) (fun t=>t.k=2) _ hbl;have hi:=List.idxOf_lt_length_of_mem (YA hq ht hk);have hl:(r.take ((Z0 a).idxOf t.t+1)).length=(Z0 a).idxOf t.t+1:=by rw[List.length_take];omega
     have hf:=hp.fit ((Z0 a).idxOf t.t+1) (by simp) (by omega);rw[Zez (by omega) hl,Bool.not_eq_true',List.any_eq_false]at hf
     have hall:allQ (prsM (Z0 a) (Z0 b) (r.take ((Z0 a).idxOf t.t+1))) q=true:=by
      unfold allQ;rw[List.all_eq_true];intro t' ht';by_cases hk':t'.k=2
      ·have hm':=hmax t' ht' hk';have hi':=List.idxOf_lt_length_of_mem (YA hq ht' hk');have:=Z7w (B:=Z0 b) (YB a) (zs:=r.take ((Z0 a).idxOf t.t+1)) (i:=(Z0 a).idxOf t'.t) (by rw[hl];omega) hi';rw[List.getElem_idxOf hi']at this;rw[this];simp
      ·simp[hk']
     have hin:inQ ((Z0 a)[(Z0 a).idxOf t.t]) q=true:=by
      unfold inQ;rw[List.any_eq_true];exact⟨t,ht,by rw[List.getElem_idxOf hi];simp[hk]⟩
     have:=hf q hq;unfold ZbX at this;rw[hin,hall,Z8F (YB a) hall]at this;simpa using this
    ·have hno:∀t∈Zt q, ¬t.k=2:=fun t ht hk=>hbl ⟨t,ht,hk⟩;have e2:renQ (prsM (Z0 a) (Z0 b) r) q=q:=WR (f:=renT _) (g:=id) fun t ht=>Z3W (hno t ht);rw[e2];have:q∈gndM a:=List.mem_filter.2 ⟨hq,by rw[List.all_eq_true];intro t ht;simpa using hno t ht⟩;rw[hst.2.2]at this;exact(List.mem_filter.1 this).1
   ·injection he with _ h2;cases h2
   ·injection he with _ h2;cases h2
  ·injection he with _ h2;cases h2
theorem ZdP{budget:Int}(hF:FindIs a b budget ps 0):Bij a b ps:=by
 obtain⟨r,rfl,h⟩:=Zcf hF;exact h.bij
theorem Bij.find{budget e:Int}{qs:List Pr}(h:Bij a b ps)(hF:FindIs a b budget qs e):(e=4/\qs=[]/\0< (Z0 a).length)\/e=0:=by
 obtain⟨zs,hm,_⟩:=h.maps;rcases hm.find hF with h1|h1
 ·exact .inl h1
 ·exact .inr h1.1
end
def Z7E(u:LB):Prop:=u.length<=65536/\Z66 u=0
theorem ZeE{t:Tm}(hk:t.k=2)(h:Go.Our.checkM t=0):(t.y=[]/\t.l=[])/\Z7E t.t:=by
 unfold Go.Our.checkM at h;rw[if_pos (.inr hk)]at h;split at h
 ·cases h
 ·rename_i h1;rw[if_neg (by rw[hk];decide)]at h;split at h
  ·cases h
  ·rename_i h2;refine⟨⟨Decidable.byContradiction fun e=>h1 (.inl e),Decidable.byContradiction fun e=>h1 (.inr e)⟩,by omega,h⟩
theorem Zhb{t:Tm}(hk:t.k=2)(hy:t.y=[])(hl:t.l=[])(h:Z7E t.t):Go.Our.checkM t=0:=by
 unfold Go.Our.checkM;rw[if_pos (.inr hk),if_neg (by rw[hy,hl];simp),if_neg (by rw[hk];decide),if_neg (by have:=h.1;omega)];exact h.2
theorem Z9M{q:Qd}(h:X7 q=0){t:Tm}(ht:t∈Zt q)(hk:t.k=2):Go.Our.checkM t=0:=by
 unfold X7 at h;split at h
 ·cases h
 split at h
 ·exact absurd h ‹_›
 split at h
 ·cases h
 split at h
 ·exact absurd h ‹_›
 split at h
 ·exact absurd h ‹_›
 simp only[Zt,List.mem_cons,List.not_mem_nil,or_false]at ht;rcases ht with rfl|rfl|rfl|rfl
 ·exact Decidable.byContradiction ‹_›
 ·exact Decidable.byContradiction ‹_›
 ·exact Decidable.byContradiction ‹_›
 ·split at h
  ·rename_i e;rw[e]at hk;cases hk
  ·split at h
   ·cases h
   ·exact h
theorem Z7F{l:List Qd}{u:LB}(hu:u∈Z0 l):∃q∈l,∃t∈Zt q,t.k=2/\t.t=u:=by
 obtain⟨q,hq,h⟩:=List.mem_flatMap.1 ((Jw _ _).1 hu);unfold YJ at h
 have key:∀{t:Tm},u∈Yt t->t.k=2/\t.t=u:=fun{t} h=>by
  unfold Yt at h;split at h
  ·exact⟨‹_›,(List.mem_singleton.1 h).symm⟩
  ·cases h
 simp only[List.mem_append]at h;rcases h with((h|h)|h)|h
 ·exact⟨q,hq,q.s,by simp[Zt],key h⟩
 ·exact⟨q,hq,q.p,by simp[Zt],key h⟩
 ·exact⟨q,hq,q.o,by simp[Zt],key h⟩
 ·exact⟨q,hq,q.g,by simp[Zt],key h⟩
theorem Zhc{l:List Qd}(d:DsOK l){u:LB}(hu:u∈Z0 l):Z7E u:=by
 obtain⟨q,hq,t,ht,hk,rfl⟩:=Z7F hu;exact(ZeE hk (Z9M (d.ck q hq) ht hk)).2
theorem Uw{ps:List Pr}{t:Tm}(h:Go.Our.checkM t=0)(hu:t.k=2->∃u,toOf ps t.t=some u/\Z7E u):Go.Our.checkM (ZP ps t)=0:=by
 by_cases hk:t.k=2
 ·obtain⟨u,e,hl⟩:=hu hk;rw[V0 hk e];have:=(ZeE hk h).1;exact Zhb hk this.1 this.2 hl
 ·rw[UL hk];exact h
theorem Z8H(ps:List Pr)(t:Tm):(ZP ps t).k=t.k:=by
 unfold ZP;split
 ·split<;>rfl
 ·rfl
theorem Z9N{ps:List Pr}{q:Qd}(h:X7 q=0)(hu:∀t∈Zt q,t.k=2->∃u,toOf ps t.t=some u/\Z7E u):X7 (Xb ps q)=0:=by
 have hg:(ZP ps q.g=Y8)<->q.g=Y8:=by
  constructor
  ·intro e;by_cases hk:q.g.k=2
   ·have:=Z8H ps q.g;rw[e,hk]at this;cases this
   ·rwa [UL hk]at e
  ·intro e;rw[e];exact UL (by decide)
 unfold X7 at h⊢
 show(if ¬((ZP ps q.s).k=1\/(ZP ps q.s).k=2)then 70 else if Go.Our.checkM (ZP ps q.s)≠0 then Go.Our.checkM (ZP ps q.s)else
 if ¬(ZP ps q.p).k=1 then 70 else if Go.Our.checkM (ZP ps q.p)≠0 then Go.Our.checkM (ZP ps q.p)else
 if Go.Our.checkM (ZP ps q.o)≠0 then Go.Our.checkM (ZP ps q.o)else
 if ZP ps q.g=Y8 then 0 else if ¬((ZP ps q.g).k=1\/(ZP ps q.g).k=2)then 70 else Go.Our.checkM (ZP ps q.g))=0
 simp only[Z8H,hg];split at h
 ·cases h
 rename_i h1;rw[if_neg h1];split at h
 ·exact absurd h ‹_›
 rename_i h2;rw[if_neg (fun e=>e (Uw (Decidable.byContradiction h2) (hu _ (by simp[Zt]))))];split at h
 ·cases h
 rename_i h3;rw[if_neg h3];split at h
 ·exact absurd h ‹_›
 rename_i h4;rw[if_neg (fun e=>e (Uw (Decidable.byContradiction h4) (hu _ (by simp[Zt]))))];split at h
 ·exact absurd h ‹_›
 rename_i h5;rw[if_neg (fun e=>e (Uw (Decidable.byContradiction h5) (hu _ (by simp[Zt]))))];split at h
 ·rw[if_pos ‹_›]
 rename_i h6;rw[if_neg h6];split at h
 ·cases h
 rename_i h7;rw[if_neg h7];exact Uw h (hu _ (by simp[Zt]))
theorem ZfI{l:List Qd}{ps:List Pr}(d:DsOK l)(fs:(ps.map Prod.fst).Perm (Z0 l))(nd:(ps.map Prod.snd).Nodup)(ok:∀u∈ps.map Prod.snd,Z7E u):Bij l (setL ZE (l.map (Xb ps))) ps:=by
 have hu:∀q∈l,∀t∈Zt q,t.k=2->∃u,(t.t,u)∈ps/\toOf ps t.t=some u/\Z7E u:=fun q hq t ht hk=>by
  obtain⟨u,h1,h2⟩:=Uv fs (YA hq ht hk);exact⟨u,h1,h2,ok u (List.mem_map.2 ⟨_,h1,rfl⟩)⟩
 have hr:=X4 triQ (l.map (Xb ps));have hl:=Vv (c:=ZE) (l.map (Xb ps));rw[List.length_map]at hl;refine⟨d,⟨hr,Nat.le_trans hl d.few,fun q hq=>?_⟩,fs,Z5e nd (YB _) fun u=>?_,Z5e (Y5 triQ hr) (Z7C (Y5 triQ d.rise) fs nd) fun z=>Jw _ _⟩
 ·obtain⟨q0,hq0,rfl⟩:=List.mem_map.1 ((Jw _ _).1 hq);refine Z9N (d.ck q0 hq0) fun t ht hk=>?_;obtain⟨u,_,h2,h3⟩:=hu q0 hq0 t ht hk;exact⟨u,h2,h3⟩
 ·constructor
  ·intro hm;obtain⟨p,hp,rfl⟩:=List.mem_map.1 hm;have h1:p.1∈Z0 l:=fs.mem_iff.1 (List.mem_map.2 ⟨p,hp,rfl⟩);obtain⟨q,hq,t,ht,hk,he⟩:=Z7F h1;have e:toOf ps t.t=some p.2:=by rw[he];exact VB (fs.symm.nodup (YB l)) hp
   have:=YA (l:=setL ZE (l.map (Xb ps))) ((Jw _ _).2 (List.mem_map.2 ⟨q,hq,rfl⟩)) (t:=ZP ps t) (by rw[Z6C];exact List.mem_map_of_mem ht) (by rw[Z8H];exact hk);rw[V0 hk e]at this;exact this
  ·intro hm;obtain⟨q,hq,t,ht,hk,rfl⟩:=Z7F hm;obtain⟨q0,hq0,rfl⟩:=List.mem_map.1 ((Jw _ _).1 hq);rw[Z6C]at ht;obtain⟨t0,ht0,rfl⟩:=List.mem_map.1 ht;rw[Z8H]at hk;obtain⟨u,h1,h2,_⟩:=hu q0 hq0 t0 ht0 hk;rw[V0 hk h2];exact List.mem_map.2 ⟨_,h1,rfl⟩
theorem ZdQ{l:List Qd}{ps:List Pr}(d:DsOK l)(fs:ps.map Prod.fst=Z0 l)(sn:(ps.map Prod.snd).Perm (Z0 l)):Bij l (setL ZE (l.map (Xb ps))) ps/\Z0 (setL ZE (l.map (Xb ps)))=Z0 l:=by
 have h:=ZfI d (.of_eq fs) (sn.symm.nodup (YB l)) fun u hu=>Zhc d (sn.mem_iff.1 hu)
 exact⟨h,Z4s triL (X4 triL _) (X4 triL _) fun z=>by
  have:=(h.sn.symm.trans sn).mem_iff (a:=z)
  exact this⟩
theorem ZfJ{A T:List LB}(h:T.length=A.length):(A.zip T).map Prod.fst=A:=by
 apply List.ext_getElem (by rw[List.length_map,List.length_zip];omega);intro i h1 h2;simp
theorem ZfK{A T:List LB}(h:T.length=A.length):(A.zip T).map Prod.snd=T:=by
 apply List.ext_getElem (by rw[List.length_map,List.length_zip];omega);intro i h1 h2;simp
theorem ZfL{l:List Qd}{T:List LB}(d:DsOK l)(hT:T.Perm (Z0 l)):Bij l (setL ZE (l.map (Xb ((Z0 l).zip T)))) ((Z0 l).zip T)/\Z0 (setL ZE (l.map (Xb ((Z0 l).zip T))))=Z0 l:=
 ZdQ d (ZfJ hT.length_eq) (by rw[ZfK hT.length_eq];exact hT)
end Go.Proofs.YtbfbokdccdagkaaGreatDoor
