/- Part 31: AlikeM. Conditions: as each part says. -/
import Derived.Test.YtlcbipfmodcedaaGreatDoorCiso7
set_option linter.unusedVariables false
set_option linter.unusedSimpArgs false
namespace Go.Our
open Go.Sx Go.Lib
section
set_option linter.unusedSectionVars false
variable {K J:Type}[BEq K][LawfulBEq K][BEq J][LawfulBEq J]
def aD(f:K->J)(l:List K):Prop:=∀x∈l,∀y∈l,f x=f y->x=y
theorem SI[Inhabited J]{ks:List K}{ls:List J}(hl:ls.length=ks.length)(h:∀i j (hi:i<ks.length) (hj:j<ks.length),ks[i]=ks[j]<->ls[i]'(by omega)=ls[j]'(by omega)):∃f,ls=ks.map f/\aD f ks:=by
 have hf:∀i (hi:i<ks.length),(ls[ks.idxOf ks[i]]?).getD default=ls[i]'(by omega):=fun i hi=>by
  have h1:=zy (zq hi);rw[z1 (by omega),Option.getD_some];exact(h _ i h1 hi).1 (zV h1)
 refine⟨fun k=>(ls[ks.idxOf k]?).getD default,?_,?_⟩
 .apply yy (by rw[zj,hl]);intro i h1 h2;rw[y9,hf i (by omega)]
 .intro x hx y hy e;obtain⟨i,hi,rfl⟩:=yg.1 hx;obtain⟨j,hj,rfl⟩:=yg.1 hy;simp only[hf i hi,hf j hj]at e;exact(h i j hi hj).2 e
theorem X7(l:List K){x:K}:x∈ZC l<->x∈l:=by
 have go:∀(l acc:List K),x∈l.foldl (fun acc k=>if k∈acc then acc else acc++ [k]) acc<->x∈acc\/x∈l:=by
  intro l
  induction l with
  |nil=>intro acc;simp
  |cons k l ih=>
   intro acc;rw[List.foldl_cons,ih];split
   .rename_i hk;constructor
    .rintro(h|h);exact .inl h;exact .inr (zG _ h)
    .rintro(h|h);exact .inl h
     .rcases zI.1 h with rfl|h
      exact .inl hk;exact .inr h
   simp only[zX,zJ,zI,xh,or_false,or_assoc]
 unfold ZC;rw[go];simp
theorem En(l:List K):(ZC l).Nodup:=by have:=Uw l l.length;rwa [yb]at this
theorem SJ{f:K->J}{l:List K}(h:aD f l):ZC (l.map f)=(ZC l).map f:=by
 have go:∀(m acc:List K),(∀x∈m,x∈l)->(∀x∈acc,x∈l)->(m.map f).foldl (fun acc k=>if k∈acc then acc else acc++ [k]) (acc.map f)=(m.foldl (fun acc k=>if k∈acc then acc else acc++ [k]) acc).map f:=by
  intro m
  induction m with
  |nil=>intro acc _ _;rfl
  |cons k m ih=>
   intro acc hm ha;have hk:=hm k (zF ..)
   have e:f k∈acc.map f<->k∈acc:=by
    constructor
    .intro hx;obtain⟨y,hy,e⟩:=zM.1 hx;have:=h y (ha y hy) k hk e;subst this;exact hy
    exact fun hx=>zM.2 ⟨k,hx,rfl⟩
   rw[zL,List.foldl_cons,List.foldl_cons];by_cases hx:k∈acc
   .rw[z8 hx,z8 (e.2 hx)];exact ih _ (fun x hx=>hm x (zG _ hx)) ha
   .rw[z6 hx,z6 (fun h2=>hx (e.1 h2))]
    have:=ih (acc++ [k]) (fun x hx=>hm x (zG _ hx)) (fun x hx=>by
     rcases zX.1 hx with h1|h1
     exact ha x h1
     rw[zJ.1 h1];exact hk)
    rw[yo,zL,yX]at this;exact this
 exact go l [] (fun x hx=>hx) (fun x hx=>by cases hx)
theorem ZbN{f:K->J}{l:List K}(h:aD f l){k:K}(hk:k∈l):(l.map f).count (f k)=l.count k:=by
 have go:∀m:List K,(∀x∈m,x∈l)->(m.map f).count (f k)=m.count k:=by
  intro m
  induction m with
  |nil=>intro _;rfl
  |cons x m ih=>
   intro hm;rw[zL,List.count_cons,List.count_cons,ih fun x hx=>hm x (zG _ hx)];congr 1;by_cases e:x=k
   subst e;simp
   .have:f x≠f k:=fun e2=>e (h x (hm x (zF ..)) k hk e2);simp[e,this]
 exact go l fun x hx=>hx
def s6(l:List K):List Nat:=(ZC l).map fun k=>l.count k
theorem ZeI{f:K->J}{l:List K}(h:aD f l):s6 (l.map f)=s6 l:=by
 unfold s6;rw[SJ h,yq];exact zZ fun k hk=>ZbN h ((X7 l).1 hk)
theorem je:∀{x l:List K},x.Nodup->l.Nodup->(∀z,z∈x<->z∈l)->x.Perm l
 | [],l,_,_,h=>by
   have:l=[]:=vn.2 fun z hz=>by simpa using(h z).2 hz
   rw[this]
 |z::x,l,hn,hl,h=>by
  have hn':=xb.1 hn;have hz:z∈l:=(h z).1 (zF ..);refine .trans (.cons z (je hn'.2 (hl.erase z) fun w=>?_)) (List.perm_cons_erase hz).symm;rw[hl.mem_erase_iff,<-h w,zI];constructor
  exact fun hw=>⟨fun e=>hn'.1 (e▸hw), .inr hw⟩
  .rintro⟨h1,h2⟩;exact h2.resolve_left h1
theorem WR{l m:List K}(h:l.Perm m):(ZC l).Perm (ZC m):=
 je (En l) (En m) fun z=>by rw[X7,X7];exact h.mem_iff
theorem ZbO{l m:List K}(h:l.Perm m):(s6 l).Perm (s6 m):=by
 unfold s6;have e:(ZC l).map (fun k=>l.count k)=(ZC l).map fun k=>m.count k:=zZ fun k _=>h.count_eq k;rw[e];exact(WR h).map _
theorem SK{l:List K}{i j:Nat}(hi:i<l.length)(hj:j<l.length):(XM l)[i]'(by rw[YX];exact hi)=(XM l)[j]'(by rw[YX];exact hj)<->l[i]=l[j]:=by
 unfold XM;simp only[y9];constructor
 .intro h;have h1:=zy ((X7 l).2 (zq hi));have h2:=zy ((X7 l).2 (zq hj));have h:(ZC l).idxOf l[i]=(ZC l).idxOf l[j]:=by omega
  rw[<-zV h1,<-zV h2];congr 1
 exact fun h=>by rw[h]
end
def aF(zs:List Nat)(n n':Int)(t t':Tm):Prop:=(n<0/\n'<0/\t'=t)\/∃j,∃(h:j<zs.length),n=(j:Int)/\n'=((zs[j]:Nat):Int)
def SdR(zs:List Nat)(s s':Sd):Prop:=aF zs s.a s'.a s.q.s s'.q.s/\aF zs s.b s'.b s.q.p s'.q.p/\aF zs s.c s'.c s.q.o s'.q.o/\aF zs s.d s'.d s.q.g s'.q.g
structure cz(zs:List Nat)(I I':List (List Sd)):Prop where
 perm:zs.Perm (List.range zs.length)
 row:∀i (h:i<zs.length),∃T:Sd->Sd,(I'.getD zs[i] []).Perm ((I.getD i []).map T)/\∀s∈I.getD i [],SdR zs s (T s)
structure iM(zs:List Nat)(cl uY:List Int):Prop where
 l:cl.length=zs.length
 l':uY.length=zs.length
 f:∃f:Int->Int,zs.map (fun z=>uY.getD z 0)=cl.map f/\aD f cl
def mE(f:Int->Int)(s:Seen):Seen:=⟨s.self,if 0<s.cls then 1+f (s.cls-1)else s.cls,s.tm⟩
def Qx(f:Int->Int)(s:Sg):Sg:=⟨mE f s.a,mE f s.b,mE f s.c,mE f s.d⟩
theorem cz.lt{zs:List Nat}{I I':List (List Sd)}(h:cz zs I I'){i:Nat}(hi:i<zs.length):zs[i]<zs.length:=zY.1 (h.perm.mem_iff.1 (zq hi))
theorem cz.nd{zs:List Nat}{I I':List (List Sd)}(h:cz zs I I'):zs.Nodup:=h.perm.symm.nodup vg
theorem Vh{K:Type}{l:List K}{i:Nat}{d:K}(h:i<l.length):l.getD i d=l[i]:=by rw[zi,z1 h];rfl
theorem Eo{zs:List Nat}{I I':List (List Sd)}(h:cz zs I I'){cl uY:List Int}(hl:cl.length=zs.length){f:Int->Int}(hf:zs.map (fun z=>uY.getD z 0)=cl.map f)(hp:∀c∈cl,0<=c){i:Nat}(hi:i<zs.length){n n':Int}{t t':Tm}(hr:aF zs n n' t t'):
 q9 uY zs[i] n' t'=mE f (q9 cl i n t):=by
 rcases hr with⟨h1,h2,rfl⟩|⟨j,hj,rfl,rfl⟩
 .unfold q9 mE;rw[z8 h1,z8 h2,z6 (by simp)]
 .unfold q9;rw[z6 (show ¬((j:Nat):Int)<0 by omega),z6 (show ¬((zs[j]:Nat):Int)<0 by omega)];by_cases e:j=i
  .subst e;rw[z8 rfl,z8 rfl];rfl
  .have hne:zs[j]≠zs[i]:=fun e2=>e ((yZ h.nd).1 e2);rw[z6 (by omega),z6 (by omega)];have hc:cl.getD j 0=cl[j]'(by omega):=Vh (by omega);have h0:=hp _ (zq (show j<cl.length by omega));have h3:(zs.map (fun z=>uY.getD z 0))[j]?=(cl.map f)[j]?:=by rw[hf]
   rw[z7,z7,z1 hj,z1 (by omega),Option.map_some,Option.map_some]at h3;injection h3 with h3;unfold mE;simp only[Int.toNat_natCast];rw[hc,z8 (by omega),h3,show(1+cl[j]'(by omega)-1:Int)=cl[j]'(by omega)by omega]
theorem Ep{f:Int->Int}{S:List Int}(hf:aD f S)(h0:∀c∈S,0<=f c){a b:Seen}(ha:0<=a.cls)(hb:0<=b.cls)(iN:0<a.cls->a.cls-1∈S)(hb':0<b.cls->b.cls-1∈S)(h:mE f a=mE f b):a=b:=by
 obtain⟨sa,ca,ta⟩:=a;obtain⟨sb,cb,tb⟩:=b;unfold mE at h;simp only[Seen.mk.injEq]at h ha hb iN hb'⊢;refine⟨h.1,?_,h.2.2⟩;have h:=h.2.1;by_cases e1:0<ca
 .have k1:=h0 _ (iN e1);by_cases e2:0<cb
  .rw[z8 e1,z8 e2]at h;have:=hf _ (iN e1) _ (hb' e2) (by omega);omega
  rw[z8 e1,z6 e2]at h;omega
 .by_cases e2:0<cb
  .have k1:=h0 _ (hb' e2);rw[z6 e1,z8 e2]at h;omega
  omega
def Qy(S:List Int)(a:Seen):Prop:=0<=a.cls/\(0<a.cls->a.cls-1∈S)
def Er(S:List Int)(a:Sg):Prop:=Qy S a.a/\Qy S a.b/\Qy S a.c/\Qy S a.d
theorem Zky{f:Int->Int}{S:List Int}(hf:aD f S)(h0:∀c∈S,0<=f c)(a b:Sg)(ha:Er S a)(hb:Er S b)(h:Qx f a=Qx f b):a=b:=by
 obtain⟨a1,a2,a3,a4⟩:=a;obtain⟨b1,b2,b3,b4⟩:=b;unfold Qx at h;simp only[Sg.mk.injEq]at h⊢;obtain⟨p1,p2,p3,p4⟩:=ha;obtain⟨q1,q2,q3,q4⟩:=hb;exact⟨Ep hf h0 p1.1 q1.1 p1.2 q1.2 h.1,Ep hf h0 p2.1 q2.1 p2.2 q2.2 h.2.1,Ep hf h0 p3.1 q3.1 p3.2 q3.2 h.2.2.1,Ep hf h0 p4.1 q4.1 p4.2 q4.2 h.2.2.2⟩
theorem Es{cl:List Int}(hp:∀c∈cl,0<=c){x:Nat}{n:Int}{t:Tm}(hn:n<cl.length):Qy cl (q9 cl x n t):=by
 unfold q9 Qy;split
 exact⟨Int.le_refl _,fun h=>(by simp at h)⟩
 .split
  exact⟨Int.le_refl _,fun h=>(by simp at h)⟩
  .have hm:cl.getD n.toNat 0∈cl:=by rw[Vh (by omega)];exact zq _
   have:=hp _ hm;refine⟨by show 0<=1+_;omega,fun _=>?_⟩;show 1+cl.getD n.toNat 0-1∈cl
   rw[show(1+cl.getD n.toNat 0-1:Int)=cl.getD n.toNat 0 by omega];exact hm
theorem aF.lt{zs:List Nat}{n n':Int}{t t':Tm}(h:aF zs n n' t t'):n< (zs.length:Int):=by
 rcases h with⟨h1,_⟩|⟨j,hj,rfl,_⟩<;>omega
theorem cz.keys{zs:List Nat}{I I':List (List Sd)}(h:cz zs I I'){cl uY:List Int}(hc:iM zs cl uY)(hp:∀c∈cl,0<=c)(hp':∀c∈uY,0<=c){i j:Nat}(hi:i<zs.length)(hj:j<zs.length):
 kN cl I i=kN cl I j<->kN uY I' zs[i]=kN uY I' zs[j]:=by
 obtain⟨f,hf,hinj⟩:=hc.f
 have hg:∀i (hi:i<zs.length),uY.getD zs[i] 0=f (cl[i]'(by rw[hc.l];exact hi)):=fun i hi=>by
  have h3:(zs.map (fun z=>uY.getD z 0))[i]?=(cl.map f)[i]?:=by rw[hf]
  rw[z7,z7,z1 hi,z1 (by rw[hc.l];exact hi),Option.map_some,Option.map_some]at h3;injection h3
 have hf0:∀c∈cl,0<=f c:=fun c hm=>by
  obtain⟨i,hi,rfl⟩:=yg.1 hm;rw[hc.l]at hi;rw[<-hg i hi,Vh (by rw[hc.l'];exact h.lt hi)];exact hp' _ (zq _)
 have hs:∀i (hi:i<zs.length),(Yj uY I' zs[i]).Perm ((Yj cl I i).map (Qx f))/\∀s∈Yj cl I i,Er cl s:=fun i hi=>by
  obtain⟨T,hT,hR⟩:=h.row i hi;unfold Yj;refine⟨(hT.map _).trans (.of_eq ?_),fun s hs=>?_⟩
  .rw[yq,yq];refine zZ fun s hs=>?_;obtain⟨r1,r2,r3,r4⟩:=hR s hs;show aq uY zs[i] (T s)=Qx f (aq cl i s)
   unfold aq Qx;rw[Eo h hc.l hf hp hi r1,Eo h hc.l hf hp hi r2,Eo h hc.l hf hp hi r3,Eo h hc.l hf hp hi r4]
  .obtain⟨d,hd,rfl⟩:=zM.1 hs;obtain⟨r1,r2,r3,r4⟩:=hR d hd;have hl:=hc.l;exact⟨Es hp (by have:=r1.lt;omega),Es hp (by have:=r2.lt;omega),Es hp (by have:=r3.lt;omega),Es hp (by have:=r4.lt;omega)⟩
 rw[Bm hp,Bm hp',hg i hi,hg j hj,Vh (by rw[hc.l];exact hi),Vh (by rw[hc.l];exact hj)];obtain⟨s1,m1⟩:=hs i hi;obtain⟨s2,m2⟩:=hs j hj;constructor
 .rintro⟨h1,h2⟩;exact⟨by rw[h1],s1.trans ((h2.map _).trans s2.symm)⟩
 .rintro⟨h1,h2⟩;refine⟨hinj _ (zq _) _ (zq _) h1,?_⟩;exact Bl (p:=Er cl) (fun a b ha hb=>Zky hinj hf0 a b ha hb) m1 m2 ((s1.symm.trans h2).trans s2)
theorem cz.next{zs:List Nat}{I I':List (List Sd)}(h:cz zs I I'){cl uY:List Int}(hc:iM zs cl uY)(hp:∀c∈cl,0<=c)(hp':∀c∈uY,0<=c):
 (ZC ((List.range cl.length).map (kN cl I))).length=(ZC ((List.range uY.length).map (kN uY I'))).length/\
 iM zs (XM ((List.range cl.length).map (kN cl I))) (XM ((List.range uY.length).map (kN uY I')))/\
 (s6 ((List.range cl.length).map (kN cl I))).Perm (s6 ((List.range uY.length).map (kN uY I'))):=by
 obtain⟨ks,hks⟩:∃ks,ks=(List.range cl.length).map (kN cl I):=⟨_,rfl⟩;obtain⟨ks',iO⟩:∃ks',ks'=(List.range uY.length).map (kN uY I'):=⟨_,rfl⟩;have hl:ks.length=zs.length:=by rw[hks,zj,yw,hc.l]
 have hl':ks'.length=zs.length:=by rw[iO,zj,yw,hc.l']
 have hzs:∀i (hi:i<zs.length),(ks'[zs[i]]'(by rw[hl'];exact h.lt hi))=kN uY I' zs[i]:=fun i hi=>by simp[iO]
 have hk:∀i (hi:i<zs.length),ks[i]=kN cl I i:=fun i hi=>by simp[hks]
 have cO:(zs.map fun z=>ks'.getD z []).Perm ks':=by
  refine(h.perm.map _).trans (.of_eq ?_);apply yy (by rw[zj,yw,hl']);intro i h1 h2;rw[y9,yS,Vh h2]
 obtain⟨g,hg,Ka⟩:=SI (ks:=ks) (ls:=zs.map fun z=>ks'.getD z []) (by rw[zj,hl]) (fun i j hi hj=>by
  rw[y9,y9,Vh (by rw[hl'];exact h.lt (by omega)),Vh (by rw[hl'];exact h.lt (by omega)),hzs i (by omega),hzs j (by omega),hk i (by omega),hk j (by omega)]
  exact h.keys hc hp hp' (by omega) (by omega))
 rw[<-hks,<-iO];refine⟨?_,⟨by rw[YX,hl],by rw[YX,hl'],?_⟩,?_⟩;rw[<-(WR cO).length_eq,hg,SJ Ka,zj]
 .refine SI (by rw[zj,YX,hl]) fun i j hi hj=>?_;rw[YX]at hi hj;have e1:∀i (hi:i<ks.length),zs[i]'(by omega)< (XM ks').length:=fun i hi=>by rw[YX,hl'];exact h.lt (by omega)
  rw[SK hi hj,y9,y9,Vh (e1 i hi),Vh (e1 j hj),SK (by rw[hl'];exact h.lt (by omega)) (by rw[hl'];exact h.lt (by omega)),hzs i (by omega),hzs j (by omega),hk i (by omega),hk j (by omega)];exact h.keys hc hp hp' (by omega) (by omega)
 .rw[<-ZeI Ka,<-hg];exact ZbO cO
end Go.Our
