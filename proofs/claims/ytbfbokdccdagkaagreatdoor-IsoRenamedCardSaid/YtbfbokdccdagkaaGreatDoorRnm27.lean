/- Part 27: AlikeM. Conditions: as each part says. -/
import Derived.Test.YtbfbokdccdagkaaGreatDoorRnm8
set_option linter.unusedVariables false
set_option linter.unusedSimpArgs false
namespace Go.Our
open Go.Sx Go.Lib
section
set_option linter.unusedSectionVars false
variable {α β:Type}[BEq α][LawfulBEq α][BEq β][LawfulBEq β]
def InjM(f:α->β)(l:List α):Prop:=∀x∈l,∀y∈l,f x=f y->x=y
theorem Zcg[Inhabited β]{ks:List α}{ls:List β}(hl:ls.length=ks.length)(h:∀i j (hi:i<ks.length) (hj:j<ks.length),ks[i]=ks[j]<->ls[i]'(by omega)=ls[j]'(by omega)):∃f,ls=ks.map f/\InjM f ks:=by
 have hf:∀i (hi:i<ks.length),(ls[ks.idxOf ks[i]]?).getD default=ls[i]'(by omega):=fun i hi=>by
  have h1:=List.idxOf_lt_length_of_mem (List.getElem_mem hi);rw[List.getElem?_eq_getElem (by omega),Option.getD_some];exact(h _ i h1 hi).1 (List.getElem_idxOf h1)
 refine⟨fun k=>(ls[ks.idxOf k]?).getD default,?_,?_⟩
 ·apply List.ext_getElem (by rw[List.length_map,hl]);intro i h1 h2;rw[List.getElem_map,hf i (by omega)]
 ·intro x hx y hy e;obtain⟨i,hi,rfl⟩:=List.mem_iff_getElem.1 hx;obtain⟨j,hj,rfl⟩:=List.mem_iff_getElem.1 hy;simp only[hf i hi,hf j hj]at e;exact(h i j hi hj).2 e
theorem YX(l:List α){x:α}:x∈Zm l<->x∈l:=by
 have go:∀(l acc:List α),x∈l.foldl (fun acc k=>if k∈acc then acc else acc++ [k]) acc<->x∈acc\/x∈l:=by
  intro l
  induction l with
  |nil=>intro acc;simp
  |cons k l ih=>
   intro acc;rw[List.foldl_cons,ih];split
   ·rename_i hk;constructor
    ·rintro(h|h)
     ·exact .inl h
     ·exact .inr (List.mem_cons_of_mem _ h)
    ·rintro(h|h)
     ·exact .inl h
     ·rcases List.mem_cons.1 h with rfl|h
      ·exact .inl hk
      ·exact .inr h
   ·simp only[List.mem_append,List.mem_singleton,List.mem_cons,List.not_mem_nil,or_false,or_assoc]
 unfold Zm;rw[go];simp
theorem Z2L(l:List α):(Zm l).Nodup:=by have:=U0 l l.length;rwa [List.take_length]at this
theorem Z3X{f:α->β}{l:List α}(h:InjM f l):Zm (l.map f)=(Zm l).map f:=by
 have go:∀(m acc:List α),(∀x∈m,x∈l)->(∀x∈acc,x∈l)->(m.map f).foldl (fun acc k=>if k∈acc then acc else acc++ [k]) (acc.map f)=(m.foldl (fun acc k=>if k∈acc then acc else acc++ [k]) acc).map f:=by
  intro m
  induction m with
  |nil=>intro acc _ _;rfl
  |cons k m ih=>
   intro acc hm ha;have hk:=hm k (List.mem_cons_self ..)
   have e:f k∈acc.map f<->k∈acc:=by
    constructor
    ·intro hx;obtain⟨y,hy,e⟩:=List.mem_map.1 hx;have:=h y (ha y hy) k hk e;subst this;exact hy
    ·exact fun hx=>List.mem_map.2 ⟨k,hx,rfl⟩
   rw[List.map_cons,List.foldl_cons,List.foldl_cons];by_cases hx:k∈acc
   ·rw[if_pos hx,if_pos (e.2 hx)];exact ih _ (fun x hx=>hm x (List.mem_cons_of_mem _ hx)) ha
   ·rw[if_neg hx,if_neg (fun h2=>hx (e.1 h2))]
    have:=ih (acc++ [k]) (fun x hx=>hm x (List.mem_cons_of_mem _ hx)) (fun x hx=>by
     rcases List.mem_append.1 hx with h1|h1
     ·exact ha x h1
     ·rw[List.mem_singleton.1 h1];exact hk)
    rw[List.map_append,List.map_cons,List.map_nil]at this;exact this
 exact go l [] (fun x hx=>hx) (fun x hx=>by cases hx)
theorem Z3Y{f:α->β}{l:List α}(h:InjM f l){k:α}(hk:k∈l):(l.map f).count (f k)=l.count k:=by
 have go:∀m:List α,(∀x∈m,x∈l)->(m.map f).count (f k)=m.count k:=by
  intro m
  induction m with
  |nil=>intro _;rfl
  |cons x m ih=>
   intro hm;rw[List.map_cons,List.count_cons,List.count_cons,ih fun x hx=>hm x (List.mem_cons_of_mem _ hx)];congr 1;by_cases e:x=k
   ·subst e;simp
   ·have:f x≠f k:=fun e2=>e (h x (hm x (List.mem_cons_self ..)) k hk e2);simp[e,this]
 exact go l fun x hx=>hx
def UM(l:List α):List Nat:=(Zm l).map fun k=>l.count k
theorem Zch{f:α->β}{l:List α}(h:InjM f l):UM (l.map f)=UM l:=by
 unfold UM;rw[Z3X h,List.map_map];exact List.map_congr_left fun k hk=>Z3Y h ((YX l).1 hk)
theorem perm_nodup:∀{x l:List α},x.Nodup->l.Nodup->(∀z,z∈x<->z∈l)->x.Perm l
 | [],l,_,_,h=>by
   have:l=[]:=List.eq_nil_iff_forall_not_mem.2 fun z hz=>by simpa using(h z).2 hz
   rw[this]
 |z::x,l,hn,hl,h=>by
  have hn':=List.nodup_cons.1 hn;have hz:z∈l:=(h z).1 (List.mem_cons_self ..);refine .trans (.cons z (perm_nodup hn'.2 (hl.erase z) fun w=>?_)) (List.perm_cons_erase hz).symm;rw[hl.mem_erase_iff,<-h w,List.mem_cons];constructor
  ·exact fun hw=>⟨fun e=>hn'.1 (e▸hw), .inr hw⟩
  ·rintro⟨h1,h2⟩;exact h2.resolve_left h1
theorem Z2M{l m:List α}(h:l.Perm m):(Zm l).Perm (Zm m):=
 perm_nodup (Z2L l) (Z2L m) fun z=>by rw[YX,YX];exact h.mem_iff
theorem Z9O{l m:List α}(h:l.Perm m):(UM l).Perm (UM m):=by
 unfold UM;have e:(Zm l).map (fun k=>l.count k)=(Zm l).map fun k=>m.count k:=List.map_congr_left fun k _=>h.count_eq k;rw[e];exact(Z2M h).map _
theorem Z8I{l:List α}{i j:Nat}(hi:i<l.length)(hj:j<l.length):(Yq l)[i]'(by rw[YO];exact hi)=(Yq l)[j]'(by rw[YO];exact hj)<->l[i]=l[j]:=by
 unfold Yq;simp only[List.getElem_map];constructor
 ·intro h;have h1:=List.idxOf_lt_length_of_mem ((YX l).2 (List.getElem_mem hi));have h2:=List.idxOf_lt_length_of_mem ((YX l).2 (List.getElem_mem hj));have h:(Zm l).idxOf l[i]=(Zm l).idxOf l[j]:=by omega
  rw[<-List.getElem_idxOf h1,<-List.getElem_idxOf h2];congr 1
 ·exact fun h=>by rw[h]
theorem Z3Z(l:List α):(List.range (Zm l).length).map (fun k:Nat=>(Yq l).count (k:Int))=UM l:=by
 unfold UM;apply List.ext_getElem (by simp);intro i h1 h2;rw[List.getElem_map,List.getElem_range,List.getElem_map];have hi:i< (Zm l).length:=by simpa using h2
 have hm:(Zm l)[i]∈l:=(YX l).1 (List.getElem_mem hi)
 have hinj:InjM (fun k=>(((Zm l).idxOf k:Nat):Int)) l:=fun x hx y hy e=>by
  have h1:=List.idxOf_lt_length_of_mem ((YX l).2 hx);have h2:=List.idxOf_lt_length_of_mem ((YX l).2 hy);have h:(Zm l).idxOf x=(Zm l).idxOf y:=by simp only at e;omega
  rw[<-List.getElem_idxOf h1,<-List.getElem_idxOf h2];congr 1
 have:=Z3Y hinj hm;simp only[(Z2L l).idxOf_getElem i hi]at this;exact this
end
def SeeR(zs:List Nat)(n n':Int)(t t':Tm):Prop:=(n<0/\n'<0/\t'=t)\/∃j,∃(h:j<zs.length),n=(j:Int)/\n'=((zs[j]:Nat):Int)
def SdR(zs:List Nat)(s s':Sd):Prop:=SeeR zs s.a s'.a s.q.s s'.q.s/\SeeR zs s.b s'.b s.q.p s'.q.p/\SeeR zs s.c s'.c s.q.o s'.q.o/\SeeR zs s.d s'.d s.q.g s'.q.g
structure WorR(zs:List Nat)(I I':List (List Sd)):Prop where
 perm:zs.Perm (List.range zs.length)
 row:∀i (h:i<zs.length),∃T:Sd->Sd,(I'.getD zs[i] []).Perm ((I.getD i []).map T)/\∀s∈I.getD i [],SdR zs s (T s)
structure ClsR(zs:List Nat)(cl cl':List Int):Prop where
 l:cl.length=zs.length
 l':cl'.length=zs.length
 f:∃f:Int->Int,zs.map (fun z=>cl'.getD z 0)=cl.map f/\InjM f cl
def Z39(f:Int->Int)(s:Seen):Seen:=⟨s.self,if 0<s.cls then 1+f (s.cls-1)else s.cls,s.tm⟩
def sgF(f:Int->Int)(s:Sg):Sg:=⟨Z39 f s.a,Z39 f s.b,Z39 f s.c,Z39 f s.d⟩
theorem WorR.lt{zs:List Nat}{I I':List (List Sd)}(h:WorR zs I I'){i:Nat}(hi:i<zs.length):zs[i]<zs.length:=List.mem_range.1 (h.perm.mem_iff.1 (List.getElem_mem hi))
theorem WorR.nd{zs:List Nat}{I I':List (List Sd)}(h:WorR zs I I'):zs.Nodup:=h.perm.symm.nodup List.nodup_range
theorem V1{α:Type}{l:List α}{i:Nat}{d:α}(h:i<l.length):l.getD i d=l[i]:=by rw[List.getD_eq_getElem?_getD,List.getElem?_eq_getElem h];rfl
theorem Z5f{zs:List Nat}{I I':List (List Sd)}(h:WorR zs I I'){cl cl':List Int}(hl:cl.length=zs.length){f:Int->Int}(hf:zs.map (fun z=>cl'.getD z 0)=cl.map f)(hp:∀c∈cl,0<=c){i:Nat}(hi:i<zs.length){n n':Int}{t t':Tm}(hr:SeeR zs n n' t t'):
 seeM cl' zs[i] n' t'=Z39 f (seeM cl i n t):=by
 rcases hr with⟨h1,h2,rfl⟩|⟨j,hj,rfl,rfl⟩
 ·unfold seeM Z39;rw[if_pos h1,if_pos h2,if_neg (by simp)]
 ·unfold seeM;rw[if_neg (show ¬((j:Nat):Int)<0 by omega),if_neg (show ¬((zs[j]:Nat):Int)<0 by omega)];by_cases e:j=i
  ·subst e;rw[if_pos rfl,if_pos rfl];rfl
  ·have hne:zs[j]≠zs[i]:=fun e2=>e ((List.getElem_inj h.nd).1 e2);rw[if_neg (by omega),if_neg (by omega)];have hc:cl.getD j 0=cl[j]'(by omega):=V1 (by omega);have h0:=hp _ (List.getElem_mem (show j<cl.length by omega));have h3:(zs.map (fun z=>cl'.getD z 0))[j]?=(cl.map f)[j]?:=by rw[hf]
   rw[List.getElem?_map,List.getElem?_map,List.getElem?_eq_getElem hj,List.getElem?_eq_getElem (by omega),Option.map_some,Option.map_some]at h3;injection h3 with h3;unfold Z39;simp only[Int.toNat_natCast];rw[hc,if_pos (by omega),h3,show(1+cl[j]'(by omega)-1:Int)=cl[j]'(by omega)by omega]
theorem Z1l{f:Int->Int}{S:List Int}(hf:InjM f S)(h0:∀c∈S,0<=f c){a b:Seen}(ha:0<=a.cls)(hb:0<=b.cls)(ha':0<a.cls->a.cls-1∈S)(hb':0<b.cls->b.cls-1∈S)(h:Z39 f a=Z39 f b):a=b:=by
 obtain⟨sa,ca,ta⟩:=a;obtain⟨sb,cb,tb⟩:=b;unfold Z39 at h;simp only[Seen.mk.injEq]at h ha hb ha' hb'⊢;refine⟨h.1,?_,h.2.2⟩;have h:=h.2.1;by_cases e1:0<ca
 ·have k1:=h0 _ (ha' e1);by_cases e2:0<cb
  ·rw[if_pos e1,if_pos e2]at h;have:=hf _ (ha' e1) _ (hb' e2) (by omega);omega
  ·rw[if_pos e1,if_neg e2]at h;omega
 ·by_cases e2:0<cb
  ·have k1:=h0 _ (hb' e2);rw[if_neg e1,if_pos e2]at h;omega
  ·omega
def InS(S:List Int)(a:Seen):Prop:=0<=a.cls/\(0<a.cls->a.cls-1∈S)
def InG(S:List Int)(a:Sg):Prop:=InS S a.a/\InS S a.b/\InS S a.c/\InS S a.d
theorem Zhd{f:Int->Int}{S:List Int}(hf:InjM f S)(h0:∀c∈S,0<=f c)(a b:Sg)(ha:InG S a)(hb:InG S b)(h:sgF f a=sgF f b):a=b:=by
 obtain⟨a1,a2,a3,a4⟩:=a;obtain⟨b1,b2,b3,b4⟩:=b;unfold sgF at h;simp only[Sg.mk.injEq]at h⊢;obtain⟨p1,p2,p3,p4⟩:=ha;obtain⟨q1,q2,q3,q4⟩:=hb;exact⟨Z1l hf h0 p1.1 q1.1 p1.2 q1.2 h.1,Z1l hf h0 p2.1 q2.1 p2.2 q2.2 h.2.1,Z1l hf h0 p3.1 q3.1 p3.2 q3.2 h.2.2.1,Z1l hf h0 p4.1 q4.1 p4.2 q4.2 h.2.2.2⟩
theorem Z8J{cl:List Int}(hp:∀c∈cl,0<=c){x:Nat}{n:Int}{t:Tm}(hn:n<cl.length):InS cl (seeM cl x n t):=by
 unfold seeM InS;split
 ·exact⟨Int.le_refl _,fun h=>(by simp at h)⟩
 ·split
  ·exact⟨Int.le_refl _,fun h=>(by simp at h)⟩
  ·have hm:cl.getD n.toNat 0∈cl:=by rw[V1 (by omega)];exact List.getElem_mem _
   have:=hp _ hm;refine⟨by show 0<=1+_;omega,fun _=>?_⟩;show 1+cl.getD n.toNat 0-1∈cl
   rw[show(1+cl.getD n.toNat 0-1:Int)=cl.getD n.toNat 0 by omega];exact hm
theorem SeeR.lt{zs:List Nat}{n n':Int}{t t':Tm}(h:SeeR zs n n' t t'):n< (zs.length:Int):=by
 rcases h with⟨h1,_⟩|⟨j,hj,rfl,_⟩<;>omega
theorem WorR.keys{zs:List Nat}{I I':List (List Sd)}(h:WorR zs I I'){cl cl':List Int}(hc:ClsR zs cl cl')(hp:∀c∈cl,0<=c)(hp':∀c∈cl',0<=c){i j:Nat}(hi:i<zs.length)(hj:j<zs.length):
 keyM cl I i=keyM cl I j<->keyM cl' I' zs[i]=keyM cl' I' zs[j]:=by
 obtain⟨f,hf,hinj⟩:=hc.f
 have hg:∀i (hi:i<zs.length),cl'.getD zs[i] 0=f (cl[i]'(by rw[hc.l];exact hi)):=fun i hi=>by
  have h3:(zs.map (fun z=>cl'.getD z 0))[i]?=(cl.map f)[i]?:=by rw[hf]
  rw[List.getElem?_map,List.getElem?_map,List.getElem?_eq_getElem hi,List.getElem?_eq_getElem (by rw[hc.l];exact hi),Option.map_some,Option.map_some]at h3;injection h3
 have hf0:∀c∈cl,0<=f c:=fun c hm=>by
  obtain⟨i,hi,rfl⟩:=List.mem_iff_getElem.1 hm;rw[hc.l]at hi;rw[<-hg i hi,V1 (by rw[hc.l'];exact h.lt hi)];exact hp' _ (List.getElem_mem _)
 have hs:∀i (hi:i<zs.length),(Y1 cl' I' zs[i]).Perm ((Y1 cl I i).map (sgF f))/\∀s∈Y1 cl I i,InG cl s:=fun i hi=>by
  obtain⟨T,hT,hR⟩:=h.row i hi;unfold Y1;refine⟨(hT.map _).trans (.of_eq ?_),fun s hs=>?_⟩
  ·rw[List.map_map,List.map_map];refine List.map_congr_left fun s hs=>?_;obtain⟨r1,r2,r3,r4⟩:=hR s hs;show sgM cl' zs[i] (T s)=sgF f (sgM cl i s)
   unfold sgM sgF;rw[Z5f h hc.l hf hp hi r1,Z5f h hc.l hf hp hi r2,Z5f h hc.l hf hp hi r3,Z5f h hc.l hf hp hi r4]
  ·obtain⟨d,hd,rfl⟩:=List.mem_map.1 hs;obtain⟨r1,r2,r3,r4⟩:=hR d hd;have hl:=hc.l;exact⟨Z8J hp (by have:=r1.lt;omega),Z8J hp (by have:=r2.lt;omega),Z8J hp (by have:=r3.lt;omega),Z8J hp (by have:=r4.lt;omega)⟩
 rw[Z2y hp,Z2y hp',hg i hi,hg j hj,V1 (by rw[hc.l];exact hi),V1 (by rw[hc.l];exact hj)];obtain⟨s1,m1⟩:=hs i hi;obtain⟨s2,m2⟩:=hs j hj;constructor
 ·rintro⟨h1,h2⟩;exact⟨by rw[h1],s1.trans ((h2.map _).trans s2.symm)⟩
 ·rintro⟨h1,h2⟩;refine⟨hinj _ (List.getElem_mem _) _ (List.getElem_mem _) h1,?_⟩;exact Z4W (p:=InG cl) (fun a b ha hb=>Zhd hinj hf0 a b ha hb) m1 m2 ((s1.symm.trans h2).trans s2)
theorem WorR.next{zs:List Nat}{I I':List (List Sd)}(h:WorR zs I I'){cl cl':List Int}(hc:ClsR zs cl cl')(hp:∀c∈cl,0<=c)(hp':∀c∈cl',0<=c):
 (Zm ((List.range cl.length).map (keyM cl I))).length=(Zm ((List.range cl'.length).map (keyM cl' I'))).length/\
 ClsR zs (Yq ((List.range cl.length).map (keyM cl I))) (Yq ((List.range cl'.length).map (keyM cl' I')))/\
 (UM ((List.range cl.length).map (keyM cl I))).Perm (UM ((List.range cl'.length).map (keyM cl' I'))):=by
 obtain⟨ks,hks⟩:∃ks,ks=(List.range cl.length).map (keyM cl I):=⟨_,rfl⟩;obtain⟨ks',hks'⟩:∃ks',ks'=(List.range cl'.length).map (keyM cl' I'):=⟨_,rfl⟩;have hl:ks.length=zs.length:=by rw[hks,List.length_map,List.length_range,hc.l]
 have hl':ks'.length=zs.length:=by rw[hks',List.length_map,List.length_range,hc.l']
 have hzs:∀i (hi:i<zs.length),(ks'[zs[i]]'(by rw[hl'];exact h.lt hi))=keyM cl' I' zs[i]:=fun i hi=>by simp[hks']
 have hk:∀i (hi:i<zs.length),ks[i]=keyM cl I i:=fun i hi=>by simp[hks]
 have hpm:(zs.map fun z=>ks'.getD z []).Perm ks':=by
  refine(h.perm.map _).trans (.of_eq ?_);apply List.ext_getElem (by rw[List.length_map,List.length_range,hl']);intro i h1 h2;rw[List.getElem_map,List.getElem_range,V1 h2]
 obtain⟨g,hg,hgi⟩:=Zcg (ks:=ks) (ls:=zs.map fun z=>ks'.getD z []) (by rw[List.length_map,hl]) (fun i j hi hj=>by
  rw[List.getElem_map,List.getElem_map,V1 (by rw[hl'];exact h.lt (by omega)),V1 (by rw[hl'];exact h.lt (by omega)),hzs i (by omega),hzs j (by omega),hk i (by omega),hk j (by omega)]
  exact h.keys hc hp hp' (by omega) (by omega))
 rw[<-hks,<-hks'];refine⟨?_,⟨by rw[YO,hl],by rw[YO,hl'],?_⟩,?_⟩
 ·rw[<-(Z2M hpm).length_eq,hg,Z3X hgi,List.length_map]
 ·refine Zcg (by rw[List.length_map,YO,hl]) fun i j hi hj=>?_;rw[YO]at hi hj;have e1:∀i (hi:i<ks.length),zs[i]'(by omega)< (Yq ks').length:=fun i hi=>by rw[YO,hl'];exact h.lt (by omega)
  rw[Z8I hi hj,List.getElem_map,List.getElem_map,V1 (e1 i hi),V1 (e1 j hj),Z8I (by rw[hl'];exact h.lt (by omega)) (by rw[hl'];exact h.lt (by omega)),hzs i (by omega),hzs j (by omega),hk i (by omega),hk j (by omega)];exact h.keys hc hp hp' (by omega) (by omega)
 ·rw[<-Zch hgi,<-hg];exact Z9O hpm
end Go.Our
