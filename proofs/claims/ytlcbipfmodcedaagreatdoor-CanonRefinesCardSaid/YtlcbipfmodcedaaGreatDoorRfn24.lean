/- Part 24: AlikeM, ClsM. Conditions: as each part says. -/
import Derived.Test.YtlcbipfmodcedaaGreatDoorRfn8
set_option linter.unusedVariables false
set_option linter.unusedSimpArgs false
namespace Go.Our
open Go.Sx Go.Lib
section
set_option linter.unusedSectionVars false
variable {α β:Type}[BEq α][LawfulBEq α][BEq β][LawfulBEq β]
def InjM(f:α->β)(l:List α):Prop:=∀x∈l,∀y∈l,f x=f y->x=y
theorem Zds[Inhabited β]{ks:List α}{ls:List β}(hl:ls.length=ks.length)(h:∀i j (hi:i<ks.length) (hj:j<ks.length),ks[i]=ks[j]<->ls[i]'(by omega)=ls[j]'(by omega)):∃f,ls=ks.map f/\InjM f ks:=by
 have hf:∀i (hi:i<ks.length),(ls[ks.idxOf ks[i]]?).getD default=ls[i]'(by omega):=fun i hi=>by
  have h1:=List.idxOf_lt_length_of_mem (List.getElem_mem hi);rw[List.getElem?_eq_getElem (by omega),Option.getD_some];exact(h _ i h1 hi).1 (List.getElem_idxOf h1)
 refine⟨fun k=>(ls[ks.idxOf k]?).getD default,?_,?_⟩
 ·apply List.ext_getElem (by rw[List.length_map,hl]);intro i h1 h2;rw[List.getElem_map,hf i (by omega)]
 ·intro x hx y hy e;obtain⟨i,hi,rfl⟩:=List.mem_iff_getElem.1 hx;obtain⟨j,hj,rfl⟩:=List.mem_iff_getElem.1 hy;simp only[hf i hi,hf j hj]at e;exact(h i j hi hj).2 e
theorem Xk(l:List α){x:α}:x∈ZH l<->x∈l:=by
 have go:∀(l acc:List α),x∈l.foldl (fun acc k=>if k∈acc then acc else acc++ [k]) acc<->x∈acc\/x∈l:=by
  intro l
  induction l with
  |nil=>intro acc;simp
  |cons k l ih=>
   intro acc;rw[List.foldl_cons,ih];split
   ·rename_i hk;constructor
    ·rintro(h|h)
     ·exact .inl h
     ·exact .inr (List.mem_cons_of_mem _ h)
    ·rintro(h|h)
     ·exact .inl h
     ·rcases List.mem_cons.1 h with rfl|h
      ·exact .inl hk
      ·exact .inr h
   ·simp only[List.mem_append,List.mem_singleton,List.mem_cons,List.not_mem_nil,or_false,or_assoc]
 unfold ZH;rw[go];simp
theorem Z0K(l:List α):(ZH l).Nodup:=by have:=Z7g l l.length;rwa [List.take_length]at this
theorem Z58{f:α->β}{l:List α}(h:InjM f l):ZH (l.map f)=(ZH l).map f:=by
 have go:∀(m acc:List α),(∀x∈m,x∈l)->(∀x∈acc,x∈l)->(m.map f).foldl (fun acc k=>if k∈acc then acc else acc++ [k]) (acc.map f)=(m.foldl (fun acc k=>if k∈acc then acc else acc++ [k]) acc).map f:=by
  intro m
  induction m with
  |nil=>intro acc _ _;rfl
  |cons k m ih=>
   intro acc hm ha;have hk:=hm k (List.mem_cons_self ..)
   have e:f k∈acc.map f<->k∈acc:=by
    constructor
    ·intro hx;obtain⟨y,hy,e⟩:=List.mem_map.1 hx;have:=h y (ha y hy) k hk e;subst this;exact hy
    ·exact fun hx=>List.mem_map.2 ⟨k,hx,rfl⟩
   rw[List.map_cons,List.foldl_cons,List.foldl_cons];by_cases hx:k∈acc
   ·rw[if_pos hx,if_pos (e.2 hx)];exact ih _ (fun x hx=>hm x (List.mem_cons_of_mem _ hx)) ha
   ·rw[if_neg hx,if_neg (fun h2=>hx (e.1 h2))]
    have:=ih (acc++ [k]) (fun x hx=>hm x (List.mem_cons_of_mem _ hx)) (fun x hx=>by
     rcases List.mem_append.1 hx with h1|h1
     ·exact ha x h1
     ·rw[List.mem_singleton.1 h1];exact hk)
    rw[List.map_append,List.map_cons,List.map_nil]at this;exact this
 exact go l [] (fun x hx=>hx) (fun x hx=>by cases hx)
theorem Zbt{f:α->β}{l:List α}(h:InjM f l){k:α}(hk:k∈l):(l.map f).count (f k)=l.count k:=by
 have go:∀m:List α,(∀x∈m,x∈l)->(m.map f).count (f k)=m.count k:=by
  intro m
  induction m with
  |nil=>intro _;rfl
  |cons x m ih=>
   intro hm;rw[List.map_cons,List.count_cons,List.count_cons,ih fun x hx=>hm x (List.mem_cons_of_mem _ hx)];congr 1;by_cases e:x=k
   ·subst e;simp
   ·have:f x≠f k:=fun e2=>e (h x (hm x (List.mem_cons_self ..)) k hk e2);simp[e,this]
 exact go l fun x hx=>hx
def Z1V(l:List α):List Nat:=(ZH l).map fun k=>l.count k
theorem Zdt{f:α->β}{l:List α}(h:InjM f l):Z1V (l.map f)=Z1V l:=by
 unfold Z1V;rw[Z58 h,List.map_map];exact List.map_congr_left fun k hk=>Zbt h ((Xk l).1 hk)
theorem perm_nodup:∀{x l:List α},x.Nodup->l.Nodup->(∀z,z∈x<->z∈l)->x.Perm l
 | [],l,_,_,h=>by
   have:l=[]:=List.eq_nil_iff_forall_not_mem.2 fun z hz=>by simpa using(h z).2 hz
   rw[this]
 |z::x,l,hn,hl,h=>by
  have hn':=List.nodup_cons.1 hn;have hz:z∈l:=(h z).1 (List.mem_cons_self ..);refine .trans (.cons z (perm_nodup hn'.2 (hl.erase z) fun w=>?_)) (List.perm_cons_erase hz).symm;rw[hl.mem_erase_iff,<-h w,List.mem_cons];constructor
  ·exact fun hw=>⟨fun e=>hn'.1 (e▸hw), .inr hw⟩
  ·rintro⟨h1,h2⟩;exact h2.resolve_left h1
theorem Z3W{l m:List α}(h:l.Perm m):(ZH l).Perm (ZH m):=
 perm_nodup (Z0K l) (Z0K m) fun z=>by rw[Xk,Xk];exact h.mem_iff
theorem Zbu{l m:List α}(h:l.Perm m):(Z1V l).Perm (Z1V m):=by
 unfold Z1V;have e:(ZH l).map (fun k=>l.count k)=(ZH l).map fun k=>m.count k:=List.map_congr_left fun k _=>h.count_eq k;rw[e];exact(Z3W h).map _
theorem Zac{l:List α}{i j:Nat}(hi:i<l.length)(hj:j<l.length):(Wz l)[i]'(by rw[Jq];exact hi)=(Wz l)[j]'(by rw[Jq];exact hj)<->l[i]=l[j]:=by
 unfold Wz;simp only[List.getElem_map];constructor
 ·intro h;have h1:=List.idxOf_lt_length_of_mem ((Xk l).2 (List.getElem_mem hi));have h2:=List.idxOf_lt_length_of_mem ((Xk l).2 (List.getElem_mem hj));have h:(ZH l).idxOf l[i]=(ZH l).idxOf l[j]:=by omega
  rw[<-List.getElem_idxOf h1,<-List.getElem_idxOf h2];congr 1
 ·exact fun h=>by rw[h]
end
def SeeR(zs:List Nat)(n n':Int)(t t':Tm):Prop:=(n<0/\n'<0/\t'=t)\/∃j,∃(h:j<zs.length),n=(j:Int)/\n'=((zs[j]:Nat):Int)
def SdR(zs:List Nat)(s s':Sd):Prop:=SeeR zs s.a s'.a s.q.s s'.q.s/\SeeR zs s.b s'.b s.q.p s'.q.p/\SeeR zs s.c s'.c s.q.o s'.q.o/\SeeR zs s.d s'.d s.q.g s'.q.g
structure WorR(zs:List Nat)(I I':List (List Sd)):Prop where
 perm:zs.Perm (List.range zs.length)
 row:∀i (h:i<zs.length),∃T:Sd->Sd,(I'.getD zs[i] []).Perm ((I.getD i []).map T)/\∀s∈I.getD i [],SdR zs s (T s)
structure ClsR(zs:List Nat)(cl cl':List Int):Prop where
 l:cl.length=zs.length
 l':cl'.length=zs.length
 f:∃f:Int->Int,zs.map (fun z=>cl'.getD z 0)=cl.map f/\InjM f cl
def Z4t(f:Int->Int)(s:Seen):Seen:=⟨s.self,if 0<s.cls then 1+f (s.cls-1)else s.cls,s.tm⟩
def sgF(f:Int->Int)(s:Sg):Sg:=⟨Z4t f s.a,Z4t f s.b,Z4t f s.c,Z4t f s.d⟩
theorem WorR.lt{zs:List Nat}{I I':List (List Sd)}(h:WorR zs I I'){i:Nat}(hi:i<zs.length):zs[i]<zs.length:=List.mem_range.1 (h.perm.mem_iff.1 (List.getElem_mem hi))
theorem WorR.nd{zs:List Nat}{I I':List (List Sd)}(h:WorR zs I I'):zs.Nodup:=h.perm.symm.nodup List.nodup_range
theorem VN{α:Type}{l:List α}{i:Nat}{d:α}(h:i<l.length):l.getD i d=l[i]:=by rw[List.getD_eq_getElem?_getD,List.getElem?_eq_getElem h];rfl
theorem Z68{zs:List Nat}{I I':List (List Sd)}(h:WorR zs I I'){cl cl':List Int}(hl:cl.length=zs.length){f:Int->Int}(hf:zs.map (fun z=>cl'.getD z 0)=cl.map f)(hp:∀c∈cl,0<=c){i:Nat}(hi:i<zs.length){n n':Int}{t t':Tm}(hr:SeeR zs n n' t t'):
 seeM cl' zs[i] n' t'=Z4t f (seeM cl i n t):=by
 rcases hr with⟨h1,h2,rfl⟩|⟨j,hj,rfl,rfl⟩
 ·unfold seeM Z4t;rw[if_pos h1,if_pos h2,if_neg (by simp)]
 ·unfold seeM;rw[if_neg (show ¬((j:Nat):Int)<0 by omega),if_neg (show ¬((zs[j]:Nat):Int)<0 by omega)];by_cases e:j=i
  ·subst e;rw[if_pos rfl,if_pos rfl];rfl
  ·have hne:zs[j]≠zs[i]:=fun e2=>e ((List.getElem_inj h.nd).1 e2);rw[if_neg (by omega),if_neg (by omega)];have hc:cl.getD j 0=cl[j]'(by omega):=VN (by omega);have h0:=hp _ (List.getElem_mem (show j<cl.length by omega));have h3:(zs.map (fun z=>cl'.getD z 0))[j]?=(cl.map f)[j]?:=by rw[hf]
   rw[List.getElem?_map,List.getElem?_map,List.getElem?_eq_getElem hj,List.getElem?_eq_getElem (by omega),Option.map_some,Option.map_some]at h3;injection h3 with h3;unfold Z4t;simp only[Int.toNat_natCast];rw[hc,if_pos (by omega),h3,show(1+cl[j]'(by omega)-1:Int)=cl[j]'(by omega)by omega]
theorem Z2v{f:Int->Int}{S:List Int}(hf:InjM f S)(h0:∀c∈S,0<=f c){a b:Seen}(ha:0<=a.cls)(hb:0<=b.cls)(ha':0<a.cls->a.cls-1∈S)(hb':0<b.cls->b.cls-1∈S)(h:Z4t f a=Z4t f b):a=b:=by
 obtain⟨sa,ca,ta⟩:=a;obtain⟨sb,cb,tb⟩:=b;unfold Z4t at h;simp only[Seen.mk.injEq]at h ha hb ha' hb'⊢;refine⟨h.1,?_,h.2.2⟩;have h:=h.2.1;by_cases e1:0<ca
 ·have k1:=h0 _ (ha' e1);by_cases e2:0<cb
  ·rw[if_pos e1,if_pos e2]at h;have:=hf _ (ha' e1) _ (hb' e2) (by omega);omega
  ·rw[if_pos e1,if_neg e2]at h;omega
 ·by_cases e2:0<cb
  ·have k1:=h0 _ (hb' e2);rw[if_neg e1,if_pos e2]at h;omega
  ·omega
def InS(S:List Int)(a:Seen):Prop:=0<=a.cls/\(0<a.cls->a.cls-1∈S)
def InG(S:List Int)(a:Sg):Prop:=InS S a.a/\InS S a.b/\InS S a.c/\InS S a.d
theorem Zi6{f:Int->Int}{S:List Int}(hf:InjM f S)(h0:∀c∈S,0<=f c)(a b:Sg)(ha:InG S a)(hb:InG S b)(h:sgF f a=sgF f b):a=b:=by
 obtain⟨a1,a2,a3,a4⟩:=a;obtain⟨b1,b2,b3,b4⟩:=b;unfold sgF at h;simp only[Sg.mk.injEq]at h⊢;obtain⟨p1,p2,p3,p4⟩:=ha;obtain⟨q1,q2,q3,q4⟩:=hb;exact⟨Z2v hf h0 p1.1 q1.1 p1.2 q1.2 h.1,Z2v hf h0 p2.1 q2.1 p2.2 q2.2 h.2.1,Z2v hf h0 p3.1 q3.1 p3.2 q3.2 h.2.2.1,Z2v hf h0 p4.1 q4.1 p4.2 q4.2 h.2.2.2⟩
theorem Zad{cl:List Int}(hp:∀c∈cl,0<=c){x:Nat}{n:Int}{t:Tm}(hn:n<cl.length):InS cl (seeM cl x n t):=by
 unfold seeM InS;split
 ·exact⟨Int.le_refl _,fun h=>(by simp at h)⟩
 ·split
  ·exact⟨Int.le_refl _,fun h=>(by simp at h)⟩
  ·have hm:cl.getD n.toNat 0∈cl:=by rw[VN (by omega)];exact List.getElem_mem _
   have:=hp _ hm;refine⟨by show 0<=1+_;omega,fun _=>?_⟩;show 1+cl.getD n.toNat 0-1∈cl
   rw[show(1+cl.getD n.toNat 0-1:Int)=cl.getD n.toNat 0 by omega];exact hm
theorem SeeR.lt{zs:List Nat}{n n':Int}{t t':Tm}(h:SeeR zs n n' t t'):n< (zs.length:Int):=by
 rcases h with⟨h1,_⟩|⟨j,hj,rfl,_⟩<;>omega
theorem WorR.keys{zs:List Nat}{I I':List (List Sd)}(h:WorR zs I I'){cl cl':List Int}(hc:ClsR zs cl cl')(hp:∀c∈cl,0<=c)(hp':∀c∈cl',0<=c){i j:Nat}(hi:i<zs.length)(hj:j<zs.length):
 keyM cl I i=keyM cl I j<->keyM cl' I' zs[i]=keyM cl' I' zs[j]:=by
 obtain⟨f,hf,hinj⟩:=hc.f
 have hg:∀i (hi:i<zs.length),cl'.getD zs[i] 0=f (cl[i]'(by rw[hc.l];exact hi)):=fun i hi=>by
  have h3:(zs.map (fun z=>cl'.getD z 0))[i]?=(cl.map f)[i]?:=by rw[hf]
  rw[List.getElem?_map,List.getElem?_map,List.getElem?_eq_getElem hi,List.getElem?_eq_getElem (by rw[hc.l];exact hi),Option.map_some,Option.map_some]at h3;injection h3
 have hf0:∀c∈cl,0<=f c:=fun c hm=>by
  obtain⟨i,hi,rfl⟩:=List.mem_iff_getElem.1 hm;rw[hc.l]at hi;rw[<-hg i hi,VN (by rw[hc.l'];exact h.lt hi)];exact hp' _ (List.getElem_mem _)
 have hs:∀i (hi:i<zs.length),(Jl cl' I' zs[i]).Perm ((Jl cl I i).map (sgF f))/\∀s∈Jl cl I i,InG cl s:=fun i hi=>by
  obtain⟨T,hT,hR⟩:=h.row i hi;unfold Jl;refine⟨(hT.map _).trans (.of_eq ?_),fun s hs=>?_⟩
  ·rw[List.map_map,List.map_map];refine List.map_congr_left fun s hs=>?_;obtain⟨r1,r2,r3,r4⟩:=hR s hs;show sgM cl' zs[i] (T s)=sgF f (sgM cl i s)
   unfold sgM sgF;rw[Z68 h hc.l hf hp hi r1,Z68 h hc.l hf hp hi r2,Z68 h hc.l hf hp hi r3,Z68 h hc.l hf hp hi r4]
  ·obtain⟨d,hd,rfl⟩:=List.mem_map.1 hs;obtain⟨r1,r2,r3,r4⟩:=hR d hd;have hl:=hc.l;exact⟨Zad hp (by have:=r1.lt;omega),Zad hp (by have:=r2.lt;omega),Zad hp (by have:=r3.lt;omega),Zad hp (by have:=r4.lt;omega)⟩
 rw[ZcR hp,ZcR hp',hg i hi,hg j hj,VN (by rw[hc.l];exact hi),VN (by rw[hc.l];exact hj)];obtain⟨s1,m1⟩:=hs i hi;obtain⟨s2,m2⟩:=hs j hj;constructor
 ·rintro⟨h1,h2⟩;exact⟨by rw[h1],s1.trans ((h2.map _).trans s2.symm)⟩
 ·rintro⟨h1,h2⟩;refine⟨hinj _ (List.getElem_mem _) _ (List.getElem_mem _) h1,?_⟩;exact Z5M (p:=InG cl) (fun a b ha hb=>Zi6 hinj hf0 a b ha hb) m1 m2 ((s1.symm.trans h2).trans s2)
theorem WorR.next{zs:List Nat}{I I':List (List Sd)}(h:WorR zs I I'){cl cl':List Int}(hc:ClsR zs cl cl')(hp:∀c∈cl,0<=c)(hp':∀c∈cl',0<=c):
 (ZH ((List.range cl.length).map (keyM cl I))).length=(ZH ((List.range cl'.length).map (keyM cl' I'))).length/\
 ClsR zs (Wz ((List.range cl.length).map (keyM cl I))) (Wz ((List.range cl'.length).map (keyM cl' I')))/\
 (Z1V ((List.range cl.length).map (keyM cl I))).Perm (Z1V ((List.range cl'.length).map (keyM cl' I'))):=by
 obtain⟨ks,hks⟩:∃ks,ks=(List.range cl.length).map (keyM cl I):=⟨_,rfl⟩;obtain⟨ks',hks'⟩:∃ks',ks'=(List.range cl'.length).map (keyM cl' I'):=⟨_,rfl⟩;have hl:ks.length=zs.length:=by rw[hks,List.length_map,List.length_range,hc.l]
 have hl':ks'.length=zs.length:=by rw[hks',List.length_map,List.length_range,hc.l']
 have hzs:∀i (hi:i<zs.length),(ks'[zs[i]]'(by rw[hl'];exact h.lt hi))=keyM cl' I' zs[i]:=fun i hi=>by simp[hks']
 have hk:∀i (hi:i<zs.length),ks[i]=keyM cl I i:=fun i hi=>by simp[hks]
 have hpm:(zs.map fun z=>ks'.getD z []).Perm ks':=by
  refine(h.perm.map _).trans (.of_eq ?_);apply List.ext_getElem (by rw[List.length_map,List.length_range,hl']);intro i h1 h2;rw[List.getElem_map,List.getElem_range,VN h2]
 obtain⟨g,hg,hgi⟩:=Zds (ks:=ks) (ls:=zs.map fun z=>ks'.getD z []) (by rw[List.length_map,hl]) (fun i j hi hj=>by
  rw[List.getElem_map,List.getElem_map,VN (by rw[hl'];exact h.lt (by omega)),VN (by rw[hl'];exact h.lt (by omega)),hzs i (by omega),hzs j (by omega),hk i (by omega),hk j (by omega)]
  exact h.keys hc hp hp' (by omega) (by omega))
 rw[<-hks,<-hks'];refine⟨?_,⟨by rw[Jq,hl],by rw[Jq,hl'],?_⟩,?_⟩
 ·rw[<-(Z3W hpm).length_eq,hg,Z58 hgi,List.length_map]
 ·refine Zds (by rw[List.length_map,Jq,hl]) fun i j hi hj=>?_;rw[Jq]at hi hj;have e1:∀i (hi:i<ks.length),zs[i]'(by omega)< (Wz ks').length:=fun i hi=>by rw[Jq,hl'];exact h.lt (by omega)
  rw[Zac hi hj,List.getElem_map,List.getElem_map,VN (e1 i hi),VN (e1 j hj),Zac (by rw[hl'];exact h.lt (by omega)) (by rw[hl'];exact h.lt (by omega)),hzs i (by omega),hzs j (by omega),hk i (by omega),hk j (by omega)];exact h.keys hc hp hp' (by omega) (by omega)
 ·rw[<-Zdt hgi,<-hg];exact Zbu hpm
end Go.Our
namespace Go.Our
open Go.Sx Go.Lib
theorem Z98{α:Type}{c:α->α->Int}(h:Tri c){l:List α}(hr:Rise c l):l.Nodup:=
 List.Pairwise.imp (fun{a b} h1 e=>by subst e;have:=h.self a;omega) hr
theorem ZeZ(cl:List Int):(Z5 (cl.mergeSort (leC cmpI))).length=clsN cl:=by
 have h1:(Z5 (cl.mergeSort (leC cmpI))).Nodup:=Z98 triI (UU triI _ (XP triI cl));have h2:=Z0K cl;refine(perm_nodup h1 h2 fun x=>?_).length_eq;rw[Uk,List.mem_mergeSort,Xk]
theorem Z99(cl:List Int):clsN cl<=cl.length:=by
 have:=Z17 cl cl.length;rwa [List.take_length]at this
theorem Z59{α:Type}[DecidableEq α]:∀{x l:List α},x.Nodup->(∀z∈x,z∈l)->x.length<=l.length
 | [],l,_,_=>by simp
 |z::x,l,hn,h=>by
  have hn':=List.nodup_cons.1 hn;have hz:z∈l:=h z (List.mem_cons_self ..);have:=Z59 (x:=x) (l:=l.erase z) hn'.2 fun w hw=>(List.mem_erase_of_ne (fun(e:w=z)=>hn'.1 (e▸hw))).2 (h w (List.mem_cons_of_mem _ hw));rw[List.length_erase_of_mem hz]at this;have:=List.length_pos_of_mem hz;rw[List.length_cons];omega
theorem Z7S{α:Type}{p q:α->Bool}:∀{l:List α} {x:α},x∈l->(∀z∈l,p z=true->q z=true)->p x=false->q x=true->l.countP p<l.countP q
 |y::l,x,hx,h,hp,hq=>by
  have hm:l.countP p<=l.countP q:=List.countP_mono_left fun z hz=>h z (List.mem_cons_of_mem _ hz);rw[List.countP_cons,List.countP_cons];rcases List.mem_cons.1 hx with rfl|hx
  ·rw[hp,hq];simp;omega
  ·have:=Z7S hx (fun z hz=>h z (List.mem_cons_of_mem _ hz)) hp hq;have:=h y (List.mem_cons_self ..);by_cases e:p y=true
   ·rw[e,this e];simp;omega
   ·simp only[Bool.not_eq_true]at e;rw[e];simp;omega
theorem Zae{α:Type}{c:α->α->Int}(h:Pre c){l:List α}{x y:α}(hx:x∈l)(hc:c x y<0):rankL c l x<rankL c l y:=by
 refine Z7S hx (fun z hz hp=>?_) ?_ ?_
 ·simp only[decide_eq_true_iff]at*;exact h.lt_le hp (by omega)
 ·simp[h.refl]
 ·simpa using hc
theorem ZgJ{α:Type}{c:α->α->Int}(h:Pre c){l:List α}{x y:α}(hx:x∈l)(hy:y∈l)(e:rankL c l x=rankL c l y):c x y=0:=by
 rcases Int.lt_trichotomy (c x y) 0 with h1|h1|h1
 ·have:=Zae h hx h1;omega
 ·exact h1
 ·have:=Zae h hy ((h.anti y x).2 h1);omega
theorem Zdu(A:List LB)(l:List Qd)(cl:List Int){x y:Nat}(hx:x<cl.length)(hy:y<cl.length)(e:(Yu A l cl)[x]'(by rw[YY];exact hx)=(Yu A l cl)[y]'(by rw[YY];exact hy)):cl[x]=cl[y]:=by
 unfold Yu at e;simp only[List.getElem_map,List.getElem_range]at e;have h:=ZgJ (Vt A l cl) (List.mem_range.2 hx) (List.mem_range.2 hy) (by omega);unfold UE at h;rw[List.getD_eq_getElem?_getD,List.getD_eq_getElem?_getD,List.getElem?_eq_getElem hx,List.getElem?_eq_getElem hy,Option.getD_some,Option.getD_some]at h;split at h
 ·rename_i e;exact(triI.zero _ _).1 e
 ·exact(triI.zero _ _).1 h
theorem ZgK(f:Int->Int)(s:List Int):clsN (s.map f)<=clsN s:=by
 unfold clsN;rw[show(ZH s).length=((ZH s).map f).length from(List.length_map ..).symm];refine Z59 (Z0K _) fun z hz=>?_;rw[Xk]at hz;obtain⟨y,hy,rfl⟩:=List.mem_map.1 hz;exact List.mem_map.2 ⟨y,(Xk s).2 hy,rfl⟩
theorem Z69(A:List LB)(l:List Qd)(cl:List Int):clsN cl<=clsN (Yu A l cl):=by
 have e:cl=(Yu A l cl).map fun v=>cl.getD ((Yu A l cl).idxOf v) 0:=by
  apply List.ext_getElem (by rw[List.length_map,YY]);intro i h1 h2;rw[List.getElem_map];have hi:i< (Yu A l cl).length:=by rw[YY];exact h1
  have hm:=List.getElem_mem hi;have hj:=List.idxOf_lt_length_of_mem hm;have hj':(Yu A l cl).idxOf (Yu A l cl)[i]<cl.length:=by rw[YY]at hj;exact hj
  rw[List.getD_eq_getElem?_getD,List.getElem?_eq_getElem hj',Option.getD_some];exact Zdu A l cl h1 hj' (List.getElem_idxOf hj).symm
 have h:=ZgK (fun v=>cl.getD ((Yu A l cl).idxOf v) 0) (Yu A l cl);rwa [<-e]at h
end Go.Our
