/- Part 22: AlikeM, ClsM. Conditions: as each part says. -/
import Derived.Test.YtlcbipfmodcedaaGreatDoorFrm7
set_option linter.unusedVariables false
set_option linter.unusedSimpArgs false
namespace Go.Our
open Go.Sx Go.Lib
section
set_option linter.unusedSectionVars false
variable {K J:Type}[BEq K][LawfulBEq K][BEq J][LawfulBEq J]
def bQ(f:K->J)(l:List K):Prop:=∀x∈l,∀y∈l,f x=f y->x=y
theorem LL[Inhabited J]{ks:List K}{ls:List J}(hl:ls.length=ks.length)(h:∀i j (hi:i<ks.length) (hj:j<ks.length),ks[i]=ks[j]<->ls[i]'(by omega)=ls[j]'(by omega)):∃f,ls=ks.map f/\bQ f ks:=by
 have hf:∀i (hi:i<ks.length),(ls[ks.idxOf ks[i]]?).getD default=ls[i]'(by omega):=fun i hi=>by
  have h1:=y7 (zk hi);rw[z1 (by omega),Option.getD_some];exact(h _ i h1 hi).1 (yI h1)
 refine⟨fun k=>(ls[ks.idxOf k]?).getD default,?_,?_⟩
 .apply yV (by rw[zy,hl]);intro i h1 h2;rw[yg,hf i (by omega)]
 .intro x hx y hy e;obtain⟨i,hi,rfl⟩:=yM.1 hx;obtain⟨j,hj,rfl⟩:=yM.1 hy;simp only[hf i hi,hf j hj]at e;exact(h i j hi hj).2 e
theorem Xg(l:List K){x:K}:x∈ZK l<->x∈l:=by
 have go:∀(l acc:List K),x∈l.foldl (fun acc k=>if k∈acc then acc else acc++ [k]) acc<->x∈acc\/x∈l:=by
  intro l
  induction l with
  |nil=>intro acc;simp
  |cons k l ih=>
   intro acc;rw[List.foldl_cons,ih];split
   .rename_i hk;constructor
    .rintro(h|h);exact .inl h;exact .inr (zK _ h)
    .rintro(h|h);exact .inl h
     .rcases zL.1 h with rfl|h
      exact .inl hk;exact .inr h
   simp only[zQ,zI,zL,xq,or_false,or_assoc]
 unfold ZK;rw[go];simp
theorem Hq(l:List K):(ZK l).Nodup:=by have:=Z7W l l.length;rwa [y8]at this
theorem LM{f:K->J}{l:List K}(h:bQ f l):ZK (l.map f)=(ZK l).map f:=by
 have go:∀(m acc:List K),(∀x∈m,x∈l)->(∀x∈acc,x∈l)->(m.map f).foldl (fun acc k=>if k∈acc then acc else acc++ [k]) (acc.map f)=(m.foldl (fun acc k=>if k∈acc then acc else acc++ [k]) acc).map f:=by
  intro m
  induction m with
  |nil=>intro acc _ _;rfl
  |cons k m ih=>
   intro acc hm ha;have hk:=hm k (zJ ..)
   have e:f k∈acc.map f<->k∈acc:=by
    constructor
    .intro hx;obtain⟨y,hy,e⟩:=yc.1 hx;have:=h y (ha y hy) k hk e;subst this;exact hy
    exact fun hx=>yc.2 ⟨k,hx,rfl⟩
   rw[zG,List.foldl_cons,List.foldl_cons];by_cases hx:k∈acc
   .rw[zf hx,zf (e.2 hx)];exact ih _ (fun x hx=>hm x (zK _ hx)) ha
   .rw[z7 hx,z7 (fun h2=>hx (e.1 h2))]
    have:=ih (acc++ [k]) (fun x hx=>hm x (zK _ hx)) (fun x hx=>by
     rcases zQ.1 hx with h1|h1
     exact ha x h1
     rw[zI.1 h1];exact hk)
    rw[yz,zG,yP]at this;exact this
 exact go l [] (fun x hx=>hx) (fun x hx=>by cases hx)
theorem Zcp{f:K->J}{l:List K}(h:bQ f l){k:K}(hk:k∈l):(l.map f).count (f k)=l.count k:=by
 have go:∀m:List K,(∀x∈m,x∈l)->(m.map f).count (f k)=m.count k:=by
  intro m
  induction m with
  |nil=>intro _;rfl
  |cons x m ih=>
   intro hm;rw[zG,List.count_cons,List.count_cons,ih fun x hx=>hm x (zK _ hx)];congr 1;by_cases e:x=k
   subst e;simp
   .have:f x≠f k:=fun e2=>e (h x (hm x (zJ ..)) k hk e2);simp[e,this]
 exact go l fun x hx=>hx
def rF(l:List K):List Nat:=(ZK l).map fun k=>l.count k
theorem ZeE{f:K->J}{l:List K}(h:bQ f l):rF (l.map f)=rF l:=by
 unfold rF;rw[LM h,xo];exact yy fun k hk=>Zcp h ((Xg l).1 hk)
theorem jD:∀{x l:List K},x.Nodup->l.Nodup->(∀z,z∈x<->z∈l)->x.Perm l
 | [],l,_,_,h=>by
   have:l=[]:=List.eq_nil_iff_forall_not_mem.2 fun z hz=>by simpa using(h z).2 hz
   rw[this]
 |z::x,l,hn,hl,h=>by
  have hn':=List.nodup_cons.1 hn;have hz:z∈l:=(h z).1 (zJ ..);refine .trans (.cons z (jD hn'.2 (hl.erase z) fun w=>?_)) (List.perm_cons_erase hz).symm;rw[hl.mem_erase_iff,<-h w,zL];constructor
  exact fun hw=>⟨fun e=>hn'.1 (e▸hw), .inr hw⟩
  .rintro⟨h1,h2⟩;exact h2.resolve_left h1
theorem LN{l m:List K}(h:l.Perm m):(ZK l).Perm (ZK m):=
 jD (Hq l) (Hq m) fun z=>by rw[Xg,Xg];exact h.mem_iff
theorem Zcq{l m:List K}(h:l.Perm m):(rF l).Perm (rF m):=by
 unfold rF;have e:(ZK l).map (fun k=>l.count k)=(ZK l).map fun k=>m.count k:=yy fun k _=>h.count_eq k;rw[e];exact(LN h).map _
theorem LO{l:List K}{i j:Nat}(hi:i<l.length)(hj:j<l.length):(WE l)[i]'(by rw[Jm];exact hi)=(WE l)[j]'(by rw[Jm];exact hj)<->l[i]=l[j]:=by
 unfold WE;simp only[yg];constructor
 .intro h;have h1:=y7 ((Xg l).2 (zk hi));have h2:=y7 ((Xg l).2 (zk hj));have h:(ZK l).idxOf l[i]=(ZK l).idxOf l[j]:=by omega
  rw[<-yI h1,<-yI h2];congr 1
 exact fun h=>by rw[h]
end
def bS(zs:List Nat)(n n':Int)(t t':Tm):Prop:=(n<0/\n'<0/\t'=t)\/∃j,∃(h:j<zs.length),n=(j:Int)/\n'=((zs[j]:Nat):Int)
def SdR(zs:List Nat)(s s':Sd):Prop:=bS zs s.a s'.a s.q.s s'.q.s/\bS zs s.b s'.b s.q.p s'.q.p/\bS zs s.c s'.c s.q.o s'.q.o/\bS zs s.d s'.d s.q.g s'.q.g
structure dU(zs:List Nat)(I I':List (List Sd)):Prop where
 perm:zs.Perm (List.range zs.length)
 row:∀i (h:i<zs.length),∃T:Sd->Sd,(I'.getD zs[i] []).Perm ((I.getD i []).map T)/\∀s∈I.getD i [],SdR zs s (T s)
structure tN(zs:List Nat)(cl gx:List Int):Prop where
 l:cl.length=zs.length
 l':gx.length=zs.length
 f:∃f:Int->Int,zs.map (fun z=>gx.getD z 0)=cl.map f/\bQ f cl
def mc(f:Int->Int)(s:Seen):Seen:=⟨s.self,if 0<s.cls then 1+f (s.cls-1)else s.cls,s.tm⟩
def Q2(f:Int->Int)(s:Sg):Sg:=⟨mc f s.a,mc f s.b,mc f s.c,mc f s.d⟩
theorem dU.lt{zs:List Nat}{I I':List (List Sd)}(h:dU zs I I'){i:Nat}(hi:i<zs.length):zs[i]<zs.length:=yj.1 (h.perm.mem_iff.1 (zk hi))
theorem dU.nd{zs:List Nat}{I I':List (List Sd)}(h:dU zs I I'):zs.Nodup:=h.perm.symm.nodup xJ
theorem VS{K:Type}{l:List K}{i:Nat}{d:K}(h:i<l.length):l.getD i d=l[i]:=by rw[zl,z1 h];rfl
theorem Hr{zs:List Nat}{I I':List (List Sd)}(h:dU zs I I'){cl gx:List Int}(hl:cl.length=zs.length){f:Int->Int}(hf:zs.map (fun z=>gx.getD z 0)=cl.map f)(hp:∀c∈cl,0<=c){i:Nat}(hi:i<zs.length){n n':Int}{t t':Tm}(hr:bS zs n n' t t'):
 fD gx zs[i] n' t'=mc f (fD cl i n t):=by
 rcases hr with⟨h1,h2,rfl⟩|⟨j,hj,rfl,rfl⟩
 .unfold fD mc;rw[zf h1,zf h2,z7 (by simp)]
 .unfold fD;rw[z7 (show ¬((j:Nat):Int)<0 by omega),z7 (show ¬((zs[j]:Nat):Int)<0 by omega)];by_cases e:j=i
  .subst e;rw[zf rfl,zf rfl];rfl
  .have hne:zs[j]≠zs[i]:=fun e2=>e ((x9 h.nd).1 e2);rw[z7 (by omega),z7 (by omega)];have hc:cl.getD j 0=cl[j]'(by omega):=VS (by omega);have h0:=hp _ (zk (show j<cl.length by omega));have h3:(zs.map (fun z=>gx.getD z 0))[j]?=(cl.map f)[j]?:=by rw[hf]
   rw[z6,z6,z1 hj,z1 (by omega),Option.map_some,Option.map_some]at h3;injection h3 with h3;unfold mc;simp only[Int.toNat_natCast];rw[hc,zf (by omega),h3,show(1+cl[j]'(by omega)-1:Int)=cl[j]'(by omega)by omega]
theorem Hs{f:Int->Int}{S:List Int}(hf:bQ f S)(h0:∀c∈S,0<=f c){a b:Seen}(ha:0<=a.cls)(hb:0<=b.cls)(eN:0<a.cls->a.cls-1∈S)(hb':0<b.cls->b.cls-1∈S)(h:mc f a=mc f b):a=b:=by
 obtain⟨sa,ca,ta⟩:=a;obtain⟨sb,cb,tb⟩:=b;unfold mc at h;simp only[Seen.mk.injEq]at h ha hb eN hb'⊢;refine⟨h.1,?_,h.2.2⟩;have h:=h.2.1;by_cases e1:0<ca
 .have k1:=h0 _ (eN e1);by_cases e2:0<cb
  .rw[zf e1,zf e2]at h;have:=hf _ (eN e1) _ (hb' e2) (by omega);omega
  rw[zf e1,z7 e2]at h;omega
 .by_cases e2:0<cb
  .have k1:=h0 _ (hb' e2);rw[z7 e1,zf e2]at h;omega
  omega
def Q3(S:List Int)(a:Seen):Prop:=0<=a.cls/\(0<a.cls->a.cls-1∈S)
def Ht(S:List Int)(a:Sg):Prop:=Q3 S a.a/\Q3 S a.b/\Q3 S a.c/\Q3 S a.d
theorem Zk9{f:Int->Int}{S:List Int}(hf:bQ f S)(h0:∀c∈S,0<=f c)(a b:Sg)(ha:Ht S a)(hb:Ht S b)(h:Q2 f a=Q2 f b):a=b:=by
 obtain⟨a1,a2,a3,a4⟩:=a;obtain⟨b1,b2,b3,b4⟩:=b;unfold Q2 at h;simp only[Sg.mk.injEq]at h⊢;obtain⟨p1,p2,p3,p4⟩:=ha;obtain⟨q1,q2,q3,q4⟩:=hb;exact⟨Hs hf h0 p1.1 q1.1 p1.2 q1.2 h.1,Hs hf h0 p2.1 q2.1 p2.2 q2.2 h.2.1,Hs hf h0 p3.1 q3.1 p3.2 q3.2 h.2.2.1,Hs hf h0 p4.1 q4.1 p4.2 q4.2 h.2.2.2⟩
theorem Hu{cl:List Int}(hp:∀c∈cl,0<=c){x:Nat}{n:Int}{t:Tm}(hn:n<cl.length):Q3 cl (fD cl x n t):=by
 unfold fD Q3;split
 exact⟨Int.le_refl _,fun h=>(by simp at h)⟩
 .split
  exact⟨Int.le_refl _,fun h=>(by simp at h)⟩
  .have hm:cl.getD n.toNat 0∈cl:=by rw[VS (by omega)];exact zk _
   have:=hp _ hm;refine⟨by show 0<=1+_;omega,fun _=>?_⟩;show 1+cl.getD n.toNat 0-1∈cl
   rw[show(1+cl.getD n.toNat 0-1:Int)=cl.getD n.toNat 0 by omega];exact hm
theorem bS.lt{zs:List Nat}{n n':Int}{t t':Tm}(h:bS zs n n' t t'):n< (zs.length:Int):=by
 rcases h with⟨h1,_⟩|⟨j,hj,rfl,_⟩<;>omega
theorem dU.keys{zs:List Nat}{I I':List (List Sd)}(h:dU zs I I'){cl gx:List Int}(hc:tN zs cl gx)(hp:∀c∈cl,0<=c)(hp':∀c∈gx,0<=c){i j:Nat}(hi:i<zs.length)(hj:j<zs.length):
 kI cl I i=kI cl I j<->kI gx I' zs[i]=kI gx I' zs[j]:=by
 obtain⟨f,hf,hinj⟩:=hc.f
 have hg:∀i (hi:i<zs.length),gx.getD zs[i] 0=f (cl[i]'(by rw[hc.l];exact hi)):=fun i hi=>by
  have h3:(zs.map (fun z=>gx.getD z 0))[i]?=(cl.map f)[i]?:=by rw[hf]
  rw[z6,z6,z1 hi,z1 (by rw[hc.l];exact hi),Option.map_some,Option.map_some]at h3;injection h3
 have hf0:∀c∈cl,0<=f c:=fun c hm=>by
  obtain⟨i,hi,rfl⟩:=yM.1 hm;rw[hc.l]at hi;rw[<-hg i hi,VS (by rw[hc.l'];exact h.lt hi)];exact hp' _ (zk _)
 have hs:∀i (hi:i<zs.length),(Jh gx I' zs[i]).Perm ((Jh cl I i).map (Q2 f))/\∀s∈Jh cl I i,Ht cl s:=fun i hi=>by
  obtain⟨T,hT,hR⟩:=h.row i hi;unfold Jh;refine⟨(hT.map _).trans (.of_eq ?_),fun s hs=>?_⟩
  .rw[xo,xo];refine yy fun s hs=>?_;obtain⟨r1,r2,r3,r4⟩:=hR s hs;show Ku gx zs[i] (T s)=Q2 f (Ku cl i s)
   unfold Ku Q2;rw[Hr h hc.l hf hp hi r1,Hr h hc.l hf hp hi r2,Hr h hc.l hf hp hi r3,Hr h hc.l hf hp hi r4]
  .obtain⟨d,hd,rfl⟩:=yc.1 hs;obtain⟨r1,r2,r3,r4⟩:=hR d hd;have hl:=hc.l;exact⟨Hu hp (by have:=r1.lt;omega),Hu hp (by have:=r2.lt;omega),Hu hp (by have:=r3.lt;omega),Hu hp (by have:=r4.lt;omega)⟩
 rw[Mi hp,Mi hp',hg i hi,hg j hj,VS (by rw[hc.l];exact hi),VS (by rw[hc.l];exact hj)];obtain⟨s1,m1⟩:=hs i hi;obtain⟨s2,m2⟩:=hs j hj;constructor
 .rintro⟨h1,h2⟩;exact⟨by rw[h1],s1.trans ((h2.map _).trans s2.symm)⟩
 .rintro⟨h1,h2⟩;refine⟨hinj _ (zk _) _ (zk _) h1,?_⟩;exact C1 (p:=Ht cl) (fun a b ha hb=>Zk9 hinj hf0 a b ha hb) m1 m2 ((s1.symm.trans h2).trans s2)
theorem dU.next{zs:List Nat}{I I':List (List Sd)}(h:dU zs I I'){cl gx:List Int}(hc:tN zs cl gx)(hp:∀c∈cl,0<=c)(hp':∀c∈gx,0<=c):
 (ZK ((List.range cl.length).map (kI cl I))).length=(ZK ((List.range gx.length).map (kI gx I'))).length/\
 tN zs (WE ((List.range cl.length).map (kI cl I))) (WE ((List.range gx.length).map (kI gx I')))/\
 (rF ((List.range cl.length).map (kI cl I))).Perm (rF ((List.range gx.length).map (kI gx I'))):=by
 obtain⟨ks,hks⟩:∃ks,ks=(List.range cl.length).map (kI cl I):=⟨_,rfl⟩;obtain⟨ks',tO⟩:∃ks',ks'=(List.range gx.length).map (kI gx I'):=⟨_,rfl⟩;have hl:ks.length=zs.length:=by rw[hks,zy,yE,hc.l]
 have hl':ks'.length=zs.length:=by rw[tO,zy,yE,hc.l']
 have hzs:∀i (hi:i<zs.length),(ks'[zs[i]]'(by rw[hl'];exact h.lt hi))=kI gx I' zs[i]:=fun i hi=>by simp[tO]
 have hk:∀i (hi:i<zs.length),ks[i]=kI cl I i:=fun i hi=>by simp[hks]
 have cg:(zs.map fun z=>ks'.getD z []).Perm ks':=by
  refine(h.perm.map _).trans (.of_eq ?_);apply yV (by rw[zy,yE,hl']);intro i h1 h2;rw[yg,yS,VS h2]
 obtain⟨g,hg,QF⟩:=LL (ks:=ks) (ls:=zs.map fun z=>ks'.getD z []) (by rw[zy,hl]) (fun i j hi hj=>by
  rw[yg,yg,VS (by rw[hl'];exact h.lt (by omega)),VS (by rw[hl'];exact h.lt (by omega)),hzs i (by omega),hzs j (by omega),hk i (by omega),hk j (by omega)]
  exact h.keys hc hp hp' (by omega) (by omega))
 rw[<-hks,<-tO];refine⟨?_,⟨by rw[Jm,hl],by rw[Jm,hl'],?_⟩,?_⟩;rw[<-(LN cg).length_eq,hg,LM QF,zy]
 .refine LL (by rw[zy,Jm,hl]) fun i j hi hj=>?_;rw[Jm]at hi hj;have e1:∀i (hi:i<ks.length),zs[i]'(by omega)< (WE ks').length:=fun i hi=>by rw[Jm,hl'];exact h.lt (by omega)
  rw[LO hi hj,yg,yg,VS (e1 i hi),VS (e1 j hj),LO (by rw[hl'];exact h.lt (by omega)) (by rw[hl'];exact h.lt (by omega)),hzs i (by omega),hzs j (by omega),hk i (by omega),hk j (by omega)];exact h.keys hc hp hp' (by omega) (by omega)
 .rw[<-ZeE QF,<-hg];exact Zcq cg
end Go.Our
namespace Go.Our
open Go.Sx Go.Lib
theorem Z9P{K:Type}{c:K->K->Int}(h:qJ c){l:List K}(hr:wQ c l):l.Nodup:=
 List.Pairwise.imp (fun{a b} h1 e=>by subst e;have:=h.self a;omega) hr
theorem Zgo(cl:List Int):(Z5 (cl.mergeSort (q9 uY))).length=wO cl:=by
 have h1:(Z5 (cl.mergeSort (q9 uY))).Nodup:=Z9P fW (UX fW _ (Xa fW cl));have h2:=Hq cl;refine(jD h1 h2 fun x=>?_).length_eq;rw[Uo,List.mem_mergeSort,Xg]
theorem B6(cl:List Int):wO cl<=cl.length:=by
 have:=C2 cl cl.length;rwa [y8]at this
theorem LP{K:Type}[DecidableEq K]:∀{x l:List K},x.Nodup->(∀z∈x,z∈l)->x.length<=l.length
 | [],l,_,_=>by simp
 |z::x,l,hn,h=>by
  have hn':=List.nodup_cons.1 hn;have hz:z∈l:=h z (zJ ..);have:=LP (x:=x) (l:=l.erase z) hn'.2 fun w hw=>(List.mem_erase_of_ne (fun(e:w=z)=>hn'.1 (e▸hw))).2 (h w (zK _ hw));rw[List.length_erase_of_mem hz]at this;have:=List.length_pos_of_mem hz;rw[List.length_cons];omega
theorem LQ{K:Type}{p q:K->Bool}:∀{l:List K} {x:K},x∈l->(∀z∈l,p z=true->q z=true)->p x=false->q x=true->l.countP p<l.countP q
 |y::l,x,hx,h,hp,hq=>by
  have hm:l.countP p<=l.countP q:=List.countP_mono_left fun z hz=>h z (zK _ hz);rw[List.countP_cons,List.countP_cons];rcases zL.1 hx with rfl|hx
  rw[hp,hq];simp;omega
  .have:=LQ hx (fun z hz=>h z (zK _ hz)) hp hq;have:=h y (zJ ..);by_cases e:p y=true
   rw[e,this e];simp;omega
   .simp only[Bool.not_eq_true]at e;rw[e];simp;omega
theorem LR{K:Type}{c:K->K->Int}(h:Pre c){l:List K}{x y:K}(hx:x∈l)(hc:c x y<0):uZ c l x<uZ c l y:=by
 refine LQ hx (fun z hz hp=>?_) ?_ ?_;simp only[yx]at*;exact h.aG hp (by omega);simp[h.refl];simpa using hc
theorem Ziu{K:Type}{c:K->K->Int}(h:Pre c){l:List K}{x y:K}(hx:x∈l)(hy:y∈l)(e:uZ c l x=uZ c l y):c x y=0:=by
 rcases Int.lt_trichotomy (c x y) 0 with h1|h1|h1
 have:=LR h hx h1;omega;exact h1;have:=LR h hy ((h.anti y x).2 h1);omega
theorem ZeF(A:List LB)(l:List Qd)(cl:List Int){x y:Nat}(hx:x<cl.length)(hy:y<cl.length)(e:(Yt A l cl)[x]'(by rw[YZ];exact hx)=(Yt A l cl)[y]'(by rw[YZ];exact hy)):cl[x]=cl[y]:=by
 unfold Yt at e;simp only[yg,yS]at e;have h:=Ziu (Vz A l cl) (yj.2 hx) (yj.2 hy) (by omega);unfold UH at h;rw[zl,zl,z1 hx,z1 hy,Option.getD_some,Option.getD_some]at h;split at h
 rename_i e;exact(fW.zero _ _).1 e;exact(fW.zero _ _).1 h
theorem Ziv(f:Int->Int)(s:List Int):wO (s.map f)<=wO s:=by
 unfold wO;rw[show(ZK s).length=((ZK s).map f).length from(zy ..).symm];refine LP (Hq _) fun z hz=>?_;rw[Xg]at hz;obtain⟨y,hy,rfl⟩:=yc.1 hz;exact yc.2 ⟨y,(Xg s).2 hy,rfl⟩
theorem B7(A:List LB)(l:List Qd)(cl:List Int):wO cl<=wO (Yt A l cl):=by
 have e:cl=(Yt A l cl).map fun v=>cl.getD ((Yt A l cl).idxOf v) 0:=by
  apply yV (by rw[zy,YZ]);intro i h1 h2;rw[yg];have hi:i< (Yt A l cl).length:=by rw[YZ];exact h1
  have hm:=zk hi;have hj:=y7 hm;have hj':(Yt A l cl).idxOf (Yt A l cl)[i]<cl.length:=by rw[YZ]at hj;exact hj
  rw[zl,z1 hj',Option.getD_some];exact ZeF A l cl h1 hj' (yI hj).symm
 have h:=Ziv (fun v=>cl.getD ((Yt A l cl).idxOf v) 0) (Yt A l cl);rwa [<-e]at h
end Go.Our
