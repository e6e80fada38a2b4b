/- 1. Conditions: none. -/
import Derived.Tactics
import Derived.IntWalk
import Derived.Lib.Bytealg
import Derived.Test.YtlcbipfmodcedaaGreatDoorTxt0
set_option linter.unusedVariables false
set_option linter.unusedSimpArgs false
namespace Go.Sx
open Go
theorem Ci{ks:Bool×List CK}{key:SV}:∀{rs:List (List SV)} {i j:Nat} {v:SV},U6 ks key i rs=some (j,v)->∃k,i<=j/\rs[j-i]?=some [k,v]/\nJ ks key k=true
 | [],i,j,v,h=>by simp[U6]at h
 |r::rs,i,j,v,h=>by
  unfold U6 at h;split at h
  .rename_i k u;split at h
   .rename_i hk;simp only[zj,yF]at h;obtain⟨rfl,rfl⟩:=h;exact⟨k,zo _,by simp,hk⟩
   .obtain⟨k',h1,h2,h3⟩:=Ci h;refine⟨k',by omega,?_,h3⟩;have:j-i=(j-(i+1))+1:=by omega
    rw[this];simpa using h2
  cases h
section
variable {M:Mx}{K:Env}{w:World}{O:w9}{nx:Nat}{ρ:Operand->Value}{lk:Operand->Option SV}{v:SV}{O':w9}{w8:Nat}{dst:Option Tmp}{ty:TypeId}{pos:String}{af:Array Edge}{gd:Option (Nat×Bool)}
def X6(w:World)(g:Nat)(es:Array MapEntry):World:={w with heap:=w.heap.setIfInBounds g (.map es es.size)}
def UX(K:Env)(rs:List (List SV))(es:Array MapEntry):Prop:=es.size=rs.length/\∀j row,rs[j]?=some row->∃e:MapEntry,es[j]?=some e/\e.born=j/\w6 K row [e.key,e.val]
theorem map_set(H:uY M K w O nx){i:Nat}{rs rs':List (List SV)}{en:kM}{es es':Array MapEntry}(hh:wu i O=some (.mp rs))(hb:K[i]?=some (some en))(h0:en.base=0)(h3:w.heap[en.g]?=some (.map es es.size))(hm:UX K rs' es'):
 (setObj en.g (.map es' es'.size)).run M.P w= .ok () (X6 w en.g es')/\uY M K (X6 w en.g es') (qh i (.mp rs') O) nx:=by
 have hlt:en.g<w.heap.size:=(zz.1 h3).1;refine⟨by simp[setObj,Sem.run,h3,X6],?_⟩;refine H.fu hh hb (fun k hk=>?_) (by simp[X6]) rfl rfl rfl ?_;simp[X6,yW,yX hk]
 .simp only[uZ,Env.get];exact⟨en,es',hb,h0,by simp[X6,hlt],hm.1,hm.2⟩
theorem Cj{rs:List (List SV)}{es:Array MapEntry}(hm:UX K rs es){j:Nat}{k v0 v:SV}{u x:Value}(hj:rs[j]?=some [k,v0])(hk:Den K k u)(hv:Den K v x):UX K (rs.modify j (oC v)) (es.modify j fun e=>{e with key:=u,val:=x}):=by
 refine⟨by rw[xX,uA];exact hm.1,fun a row ha=>?_⟩;rw[yp]at ha;cases hr:rs[a]? with
 |none=>rw[hr]at ha;cases ha
 |some r0=>
  rw[hr]at ha;obtain⟨e,e1,e2,e3⟩:=hm.2 a r0 hr;rw[y7,e1];by_cases hja:j=a
  .subst hja;rw[hj]at hr;cases hr;simp only[yR,Option.map_eq_map,Option.map_some,zj,oC]at ha;subst ha;refine⟨{e with key:=u,val:=x},by simp,e2,?_⟩;simp only[w6];exact⟨_,_,rfl,hk,_,_,rfl,hv,rfl⟩
  .simp only[z7 hja,Option.map_eq_map,Option.map_some,zj,id]at ha;subst ha;exact⟨e,by simp[hja],e2,e3⟩
theorem Ck{rs:List (List SV)}{es:Array MapEntry}(hm:UX K rs es){k v:SV}{u x:Value}(hk:Den K k u)(hv:Den K v x):UX K (rs++ [[k,v]]) (es.push ⟨u,x,es.size⟩):=by
 refine⟨by simp[hm.1],fun a row ha=>?_⟩;rw[vi];by_cases hl:a<rs.length
 .rw[zn hl]at ha;obtain⟨e,e1,e2,e3⟩:=hm.2 a row ha;exact⟨e,by rw[z7 (by rw[hm.1];omega)];exact e1,e2,e3⟩
 .rw[zx (by omega)]at ha
  have:a-rs.length=0:=by
   cases hq:a-rs.length with
   |zero=>rfl
   |succ n=>rw[hq]at ha;simp at ha
  rw[this]at ha;simp only[List.getElem?_cons_zero,zj]at ha;subst ha;have:a=es.size:=by rw[hm.1];omega
  subst this;refine⟨⟨u,x,es.size⟩,by simp,rfl,?_⟩;simp only[w6];exact⟨_,_,rfl,hk,_,_,rfl,hv,rfl⟩
theorem HN{u:Value}(h:Instr.sameBits 10000 u u=true)(w:World):(Instr.keyThatStays u u).run M.P w= .ok u w:=by simp[Instr.keyThatStays,h]
theorem jV{rs:List (List DC)}{r c:Nat}{d d':DC}:q9 (q9 rs r c d) r c d'=q9 rs r c d':=by
 apply yx;intro a;rw[Ys,Ys,Ys];by_cases ha:a=r
 .subst ha;cases rs[a]?<;>simp
 simp[ha]
theorem Zen{rs:List (List DC)}{k d d':DC}:rs++ [[k,d']]=q9 (rs++ [[k,d]]) rs.length 1 d':=by
 apply yx;intro a;rw[Ys];by_cases ha:a=rs.length
 subst ha;simp
 .rw[z7 ha];by_cases hlt':a<rs.length
  rw[zn hlt',zn hlt'];rw[zS (by simp;omega),zS (by simp;omega)]
theorem Cl(H:uY M K w O nx){i es:Nat}{rs nN:List (List DC)}{e:kM}{qi jM:Array MapEntry}(hb:wu i O=some (.deep true es rs))(he:K[i]?=some (some e))(h3:w.heap[e.g]?=some (.map qi qi.size))(hm':UX K (ZB nN) jM)
 (kg:∀a b y,Yl nN a b=some y->Yl rs a b=some y/\ZJ (.map jM jM.size) es a b=ZJ (.map qi qi.size) es a b):uY M K (X6 w e.g jM) (qh i (.deep true es nN) O) nx:=by
 have wA:=(H.own.1 i _ hb).1;obtain⟨_,hD,qX⟩:=wA.qZ;have h2:=(hD e he).1;have hK:=(hD e he).2 _ h3;have hlt:e.g<w.heap.size:=(zz.1 h3).1;have qY:∀k,k≠e.g->(X6 w e.g jM).heap[k]?=w.heap[k]?:=fun k hk=>by simp[X6,yW,yX hk]
 have mF:(X6 w e.g jM).heap[e.g]?=some (.map jM jM.size):=by simp[X6,hlt]
 refine H.oE hb he qY (by simp[X6]) rfl rfl rfl ?_ (zo _) fun m fm=>?_
 .refine uZ.jF (⟨e,jM,show K.get (.loc i)=some (some e)from he,h2,mF,hm'.1,hm'.2⟩:eF K (X6 w e.g jM) (.loc i) (ZB nN)) qX fun e' h1=>?_;rw[show K.get (.loc i)=some (some e)from he]at h1;injection h1 with h1;injection h1 with h1;subst h1
  refine⟨h2,fun o' ho=>?_⟩;rw[mF]at ho;injection ho with ho;subst ho
  refine⟨fun a b dH cq hk=>?_,fun a b a' b' y y' z z' k h1 h2 h3 h4 h5 h6=>?_⟩
  .obtain⟨q1,q2⟩:=kg a b _ hk;obtain⟨z,q3,q4,q5⟩:=hK.sat a b _ _ q1;refine⟨z,q2.trans q3,q4.keep fun k hz=>qY k fun e=>?_,q5⟩;subst e;exact q5 hz
  .obtain⟨q1,q2⟩:=kg a b _ h1;obtain⟨iG,q2'⟩:=kg a' b' _ h2;exact hK.ne a b a' b' y y' z z' k q1 iG (q2▸h3) (q2'▸h4) h5 h6
 .rcases fm.of (e:=e) (show K.get (.loc i)=some (some e)from he)with rfl|fm
  exact wq.own he
  .simp only[wZ]at fm;obtain⟨o',a,b,y,z,f1,f2,f3,f4⟩:=fm;rw[mF]at f1;injection f1 with f1;subst f1
   obtain⟨q1,q2⟩:=kg a b _ f2;exact⟨e,he, .inr (by simp only[wZ];exact⟨_,a,b,y,z,h3,q1,q2▸f3,f4⟩)⟩
theorem M0{rs:List (List DC)}{es j:Nat}{k0 d0:DC}{sv:SV}{qi:Array MapEntry}{en:MapEntry}{x:Value}(hm:UX K (ZB rs) qi)(k2:rs[j]?=some [k0,d0])(n1:qi[j]?=some en)(fS:Den K (ZT k0) en.key)(cW:Den K sv x):
 UX K (ZB (q9 rs j 1 (.v sv))) (qi.modify j fun e=>{e with key:=en.key,val:=x})/\
 ∀a b y,Yl (q9 rs j 1 (.v sv)) a b=some y->Yl rs a b=some y/\ZJ (.map (qi.modify j fun e=>{e with key:=en.key,val:=x}) (qi.modify j fun e=>{e with key:=en.key,val:=x}).size) es a b=ZJ (.map qi qi.size) es a b:=by
 have hfr:(ZB rs)[j]?=some [ZT k0,ZT d0]:=by rw[Yb,k2];rfl
 refine⟨?_,fun a b y hk=>?_⟩
 .have:ZB (q9 rs j 1 (.v sv))=(ZB rs).modify j (oC sv):=by
   apply yx;intro a;rw[WD,yp];by_cases ha:a=j
   subst ha;rw[zh rfl,hfr];simp[oC,ZT]
   .have hja:¬j=a:=fun h=>ha h.symm;rw[z7 ha];simp[hja]
  rw[this];exact Cj hm hfr fS cW
 .obtain⟨q1,q2⟩:=JY hk;refine⟨q1,?_⟩;simp only[ZJ];rw[y7];by_cases ha:j=a
  .subst ha;rw[zh rfl,n1];obtain⟨y1,y2⟩:=y;obtain⟨row,r1,r2⟩:=wN.1 q1;rw[k2]at r1;injection r1 with r1;subst r1
   match b,r2,q2 with
   |0,_,_=>rfl
   |1,_,q2=>exact(q2 ⟨rfl,rfl⟩).elim
   |b+2,r2,_=>simp at r2
  rw[z7 ha]
theorem M1{rs:List (List DC)}{es:Nat}{key sv:SV}{qi:Array MapEntry}{u x:Value}(hm:UX K (ZB rs) qi)(hdk:Den K key u)(cW:Den K sv x):
 UX K (ZB (rs++ [[.v key, .v sv]])) (qi.push ⟨u,x,qi.size⟩)/\
 ∀a b y,Yl (rs++ [[.v key, .v sv]]) a b=some y->Yl rs a b=some y/\ZJ (.map (qi.push ⟨u,x,qi.size⟩) (qi.push ⟨u,x,qi.size⟩).size) es a b=ZJ (.map qi qi.size) es a b:=by
 refine⟨?_,fun a b y hk=>?_⟩
 .have:ZB (rs++ [[.v key, .v sv]])=ZB rs++ [[key,sv]]:=by simp[ZB,ZT]
  rw[this];exact Ck hm hdk cW
 .obtain⟨y1,y2⟩:=y;obtain⟨row,k1,k2⟩:=wN.1 hk;by_cases hlt':a<rs.length
  .rw[zn hlt']at k1;refine⟨wN.2 ⟨row,k1,k2⟩,?_⟩;simp only[ZJ];rw[vi,z7 (by have:=hm.1;rw[Yc]at this;omega)]
  .rw[zx (by omega)]at k1;cases hz:a-rs.length with
   |succ n=>rw[hz]at k1;simp at k1
   |zero=>
    rw[hz]at k1;simp at k1;subst k1
    match b,k2 with
    |0,k2=>cases k2
    |1,k2=>cases k2
    |b+2,k2=>simp at k2
theorem Z30(A:At M K w O nx ρ lk){kt et:TypeId}{ks:Bool×List CK}{key sv:SV}{i es:Nat}{rs:List (List DC)}{u x:Value}{e:kM}(hks:M.C.T.key kt=some ks)(hdk:Den K key u)(cW:Den K sv x)(he:K[i]?=some (some e))
 (hb:wu i O=some (.deep true es rs)) (hr:(wW.need (Vz ks key=true/\V3 ks (ZB rs)) (iw M.C.T et O i (fun d=> .deep true es (gu ks key d rs)) sv)).ok O nx v O' w8):
 ∃qi w',w.heap[e.g]?=some (.map qi qi.size)/\(Instr.checkKey false 10000 kt u).run M.P w= .ok () w/\
  (do match<-Instr.findKey kt u qi.toList with
    |some (k,_)=>do
     let k'<-Instr.keyThatStays (((qi[k]?).map (·.key)).getD u) u
     setObj e.g (.map (qi.modify k fun e'=>{e' with key:=k',val:=x}) qi.size)
    |none=>setObj e.g (.map (qi.push {key:=u,val:=x,born:=qi.size}) (qi.size+1)):Sem Unit).run M.P w= .ok () w'/\uY M K w' O' w8/\v= .wM []:=by
 obtain⟨⟨dK,hro⟩,hr⟩:=hr;have wA:=(A.H.own.1 i _ hb).1;obtain⟨_,hD,qX⟩:=wA.qZ;have gK:=wA;simp only[uZ,Env.get]at gK;obtain⟨⟨⟨e',qi,h1,h2,h3,h4,h5⟩,_⟩,_⟩:=gK;rw[show K.get (.loc i)=some (some e)from he]at h1;injection h1 with h1;injection h1 with h1;subst h1
 have hm:UX K (ZB rs) qi:=⟨h4,h5⟩;have hK:=(hD e he).2 _ h3;have hlt:e.g<w.heap.size:=(zz.1 h3).1;have hsome:(wu i O).isSome:=by rw[hb];rfl
 obtain⟨f,hf,qu,hval⟩:=VF A.T hks dK hdk (w:=w) hro (iE (es:=qi.toList) (i:=0) (by simpa using hm.1) fun j row hj=>by
  obtain⟨en,g1,g2,g3⟩:=hm.2 j row hj
  exact⟨en,by simpa using g1,by omega,g3⟩)
 have jA:=(A.T.key kt ks hks).1 w K false key u dK hdk;rw[WC]at qu
 have fin:∀{jM:Array MapEntry} {r:Nat} {k0:DC},(gu ks key (.v sv) rs)[r]?=some [k0, .v sv]->(∀d,gu ks key d rs=q9 (gu ks key (.v sv) rs) r 1 d)->UX K (ZB (gu ks key (.v sv) rs)) jM->
  (∀a b y,Yl (gu ks key (.v sv) rs) a b=some y->Yl rs a b=some y/\ZJ (.map jM jM.size) es a b=ZJ (.map qi qi.size) es a b)->
  (setObj e.g (.map jM jM.size)).run M.P w= .ok () (X6 w e.g jM)/\uY M K (X6 w e.g jM) O' w8/\v= .wM []:=by
  intro jM r k0 hrow ku hm' kg;obtain⟨H2,rfl,rfl⟩:=Cd hr (mp:=true) (es:=es) (nN:=gu ks key (.v sv) rs) (r:=r) (c:=1) (fun d=>by rw[ku d]) rfl hrow rfl hsome (Cl A.H hb he h3 hm' kg);exact⟨by simp[setObj,Sem.run,h3,X6],H2,rfl⟩
 cases hq:findD ks key 0 rs with
 |none=>
  rw[hq]at qu;have qu:f=none:=qu;subst qu;have hs:∀d,gu ks key d rs=rs++ [[.v key,d]]:=fun d=>by unfold gu;rw[hq]
  have hp:=M1 (es:=es) hm hdk cW;rw[<-hs]at hp
  obtain⟨g1,g2,g3⟩:=fin (jM:=qi.push ⟨u,x,qi.size⟩) (r:=rs.length) (k0:= .v key) (by rw[hs];simp) (fun d=>by
   rw[hs,hs]
   exact Zen) hp.1 hp.2
  rw[ug]at g1;exact⟨qi,_,h3,jA,by simp[hf];rw[g1],g2,g3⟩
 |some p=>
  obtain⟨j,d0⟩:=p;rw[hq]at qu;obtain⟨xv,rfl,_⟩:=qu;obtain⟨k0,_,k2,k3⟩:=HI hq;rw[Nat.sub_zero]at k2;have hfr:(ZB rs)[j]?=some [ZT k0,ZT d0]:=by rw[Yb,k2];rfl
  obtain⟨en,n1,n2,n3⟩:=hm.2 j _ hfr;simp only[w6]at n3;obtain⟨_,_,e1,fS,_,_,e2,_,e3⟩:=n3;cases e1;cases e2
  obtain⟨heq,rR⟩:=HH k3 hdk fS;have hs:∀d,gu ks key d rs=q9 rs j 1 d:=fun d=>by unfold gu;rw[hq];exact WE k2
  have hjl:j<rs.length:=(zf.1 k2).1;have hp:=M0 (es:=es) hm k2 n1 fS cW;rw[<-hs]at hp
  obtain⟨g1,g2,g3⟩:=fin (jM:=qi.modify j fun e=>{e with key:=en.key,val:=x}) (r:=j) (k0:=k0) (by rw[hs,Ys,zh rfl,k2];rfl) (fun d=>by
   rw[hs,hs]
   exact jV.symm) hp.1 hp.2
  rw[xX]at g1;rw[<-heq]at g1;exact⟨qi,_,h3,jA,by simp[hf,n1,<-heq,HN rR];rw[g1],heq▸g2,g3⟩
theorem M3(A:At M K w O nx ρ lk)(t:TypeId)(m k x:Operand)(hr:(qH M.C lk O nx (.mapUpdate t m k x)).ok O nx v O' w8):Y9 M K w ⟨dst, .mapUpdate t m k x,ty,pos,af,gd⟩ ρ v O' w8:=by
 simp only[qH,Dx]at hr;split at hr
 case h_2=>exact hr.elim
 rename_i kt et hs;obtain⟨d,hd,hm⟩:=A.T.jk t (by rw[hs];simp);rw[hs]at hm;simp only[jg]at hm;subst hm;split at hr
 case h_2=>exact hr.elim
 rename_i ks hks;split at hr
 case h_2=>exact hr.elim
 rename_i key hi;have tj:=Nl A.L hi;split at hr
 case h_2=>exact hr.elim
 rename_i sv hx;split at hr
 case h_2=>exact hr.elim
 rename_i i tn;split at hr
 case h_3=>exact hr.elim
 case h_2=>
  rename_i es rs hb;have wU:=A.L _ _ tn;simp only[Den,Env.get]at wU;obtain⟨e,he,hv⟩:=wU;obtain⟨qi,w',g1,g2,g3,g4,rfl⟩:=Z30 A hks tj (A.L _ _ hx) he hb hr
  have hrun:(Instr.mapUpdate t (ρ m) (ρ k) (ρ x)).run M.P w= .ok () w':=by
   rw[<-g3];simp[Instr.mapUpdate,Z8 hd,hv,JO g1,g2]
   rfl
  exact⟨undef,w',K, .inr ⟨by simp[execOp,hrun],rfl⟩,zw,g4,V7 K,fun h=>by cases h⟩
 rename_i rs hb;obtain⟨⟨dK,hro⟩,rfl,rfl,rfl⟩:=hr;have wU:=A.L _ _ tn;simp only[Den,Env.get]at wU;obtain⟨e,he,hv⟩:=wU;obtain⟨wA,_⟩:=A.H.own.1 i _ hb;simp only[uZ,Env.get]at wA;obtain⟨e',es,h1,h2,h3,h4⟩:=wA;rw[he]at h1;cases h1;have hm:UX K rs es:=h4;have hdk:=tj;have cW:=A.L _ _ hx
 obtain⟨f,hf,qu⟩:=Ur A.T hks dK hdk (w:=w) hro (iE (es:=es.toList) (i:=0) (by simpa using hm.1) fun j row hj=>by
  obtain⟨en,g1,g2,g3⟩:=hm.2 j row hj
  exact⟨en,by simpa using g1,by omega,g3⟩)
 have jA:=(A.T.key kt ks hks).1 w K false key (ρ k) dK hdk;unfold oD;cases hq:U6 ks key 0 rs with
 |none=>
  rw[hq]at qu;have qu:f=none:=qu;subst qu;obtain⟨g1,g2⟩:=map_set A.H hb he h2 h3 (Ck hm hdk cW);rw[ug]at g1;exact⟨undef,_,K, .inr ⟨by simp[execOp,Instr.mapUpdate,Z8 hd,hv,JO h3,jA,hf];rw[g1];rfl,rfl⟩,zw,g2,V7 K,fun h=>by cases h⟩
 |some p=>
  obtain⟨j,u⟩:=p;rw[hq]at qu;obtain⟨xv,rfl,_⟩:=qu;obtain⟨k0,_,k2,k3⟩:=Ci hq;rw[Nat.sub_zero]at k2;obtain⟨en,n1,n2,n3⟩:=hm.2 j _ k2;simp only[w6]at n3;obtain⟨_,_,e1,fS,_,_,e2,_,e3⟩:=n3;cases e1;cases e2
  obtain⟨heq,rR⟩:=HH k3 hdk fS;obtain⟨g1,g2⟩:=map_set A.H hb he h2 h3 (Cj hm k2 (heq▸fS) cW);rw[xX]at g1;exact⟨undef,_,K, .inr ⟨by simp[execOp,Instr.mapUpdate,Z8 hd,hv,JO h3,jA,hf,n1,<-heq,HN rR];rw[g1];rfl,rfl⟩,zw,g2,V7 K,fun h=>by cases h⟩
theorem ZgW(A:At M K w O nx ρ lk)(t:TypeId)(m k x:Operand)(hr:(qH M.C lk O nx (.insert t m k x)).ok O nx v O' w8):Y9 M K w ⟨dst, .insert t m k x,ty,pos,af,gd⟩ ρ v O' w8:=by
 obtain⟨u,w',η',h1,h2,h3,h4,_⟩:=M3 (dst:=dst) (ty:=ty) (pos:=pos) (af:=af) (gd:=gd) A t m k x hr;exact⟨u,w',η',h1,h2,h3,h4,fun h=>by cases h⟩
theorem M4{w:World}{g:Nat}{es:Array MapEntry}(h:w.heap[g]?=some (.map es es.size)):X6 w g es=w:=by
 have hh:w.heap.setIfInBounds g (.map es es.size)=w.heap:=by
  apply xR;intro k;rw[yW];split
  rename_i e;subst e;rw[h];simp[(zz.1 h).1]
  rfl
 unfold X6;rw[hh]
theorem Z42(A:At M K w O nx ρ lk){kt et:TypeId}{ks:Bool×List CK}{key:SV}{i es:Nat}{rs:List (List DC)}{u:Value}{e:kM}(hks:M.C.T.key kt=some ks)(hdk:Den K key u)(he:K[i]?=some (some e))
 (hb:wu i O=some (.deep true es rs)) (hr:(wW.need (Vz ks key=true/\V3 ks (ZB rs)) (.findD (findD ks key 0 rs) (fun j d=>Dy nx i es rs j d)
   (sV M.C.T et fun z=> .fu i (.deep true es (rs++ [[.v key, .v z]])) (.wM [z, .int .i64 (rs.length:Int)])))).ok O nx v O' w8):
 ∃qi w' r η',w.heap[e.g]?=some (.map qi qi.size)/\(Instr.checkKey false 10000 kt u).run M.P w= .ok () w/\
  (do match<-Instr.findKey kt u qi.toList with
    |some (k,x)=>do
     let k'<-Instr.keyThatStays (((qi[k]?).map (·.key)).getD u) u
     setObj e.g (.map (qi.modify k fun e'=>{e' with key:=k'}) qi.size)
     pure (.tuple #[x,goInt (((qi[k]?).map (·.born)).getD 0)])
    |none=>do
     let z<-zeroValue et
     setObj e.g (.map (qi.push {key:=u,val:=z,born:=qi.size}) (qi.size+1))
     pure (.tuple #[z,goInt qi.size]):Sem Value).run M.P w= .ok r w'/\K<+:η'/\uY M η' w' O' w8/\Den η' v r:=by
 obtain⟨⟨dK,hro⟩,hr⟩:=hr;have wA:=(A.H.own.1 i _ hb).1;have gK:=wA;simp only[uZ,Env.get]at gK;obtain⟨⟨⟨e',qi,h1,h2,h3,h4,h5⟩,_⟩,_⟩:=gK;rw[show K.get (.loc i)=some (some e)from he]at h1;injection h1 with h1;injection h1 with h1;subst h1
 have hm:UX K (ZB rs) qi:=⟨h4,h5⟩
 obtain⟨f,hf,qu,hval⟩:=VF A.T hks dK hdk (w:=w) hro (iE (es:=qi.toList) (i:=0) (by simpa using hm.1) fun j row hj=>by
  obtain⟨en,g1,g2,g3⟩:=hm.2 j row hj
  exact⟨en,by simpa using g1,by omega,g3⟩)
 have jA:=(A.T.key kt ks hks).1 w K false key u dK hdk;rw[WC]at qu;have bh:qi.size=rs.length:=by rw[h4,Yc]
 cases hq:findD ks key 0 rs with
 |none=>
  rw[hq]at qu hr;have qu:f=none:=qu;subst qu;obtain⟨z,zv,hz,aC,hr⟩:=Gf A hr;obtain⟨rfl,rfl,rfl⟩:=hr;have hp:=M1 (es:=es) hm hdk aC
  have g1:(setObj e.g (.map (qi.push ⟨u,zv,qi.size⟩) (qi.size+1))).run M.P w= .ok () (X6 w e.g (qi.push ⟨u,zv,qi.size⟩)):=by
   simp[setObj,Sem.run,h3,X6]
  refine⟨qi,_, .tuple #[zv, .int .i64 (rs.length:Int)],K,h3,jA,by simp[hf,hz,goInt];rw[g1];simp[bh],zw,Cl A.H hb he h3 hp.1 hp.2,?_⟩;simp only[Den,w6];exact⟨_,rfl,_,_,rfl,aC,_,_,rfl,rfl,rfl⟩
 |some p=>
  obtain⟨j,d⟩:=p;rw[hq]at qu hr;obtain⟨xv,rfl,cW⟩:=qu;obtain⟨en,rM,wU⟩:=hval j xv rfl;obtain⟨k0,_,k2,k3⟩:=HI hq;rw[Nat.sub_zero]at k2;have pY:qi[j]?=some en:=by simpa using rM
  have hfr:(ZB rs)[j]?=some [ZT k0,ZT d]:=by rw[Yb,k2];rfl
  obtain⟨aB,n1,n2,n3⟩:=hm.2 j _ hfr;rw[pY]at n1;injection n1 with n1;subst n1
  simp only[w6]at n3;obtain⟨_,_,e1,fS,_,_,e2,mz,e3⟩:=n3;cases e1;cases e2
  obtain⟨heq,rR⟩:=HH k3 hdk fS
  have qX:(qi.modify j fun e=>{e with key:=u})=qi:=by
   apply xR;intro a;rw[y7];split
   rename_i hja;subst hja;rw[pY,heq];rfl
   rfl
  have g1:(setObj e.g (.map qi qi.size)).run M.P w= .ok () w:=by
   have:(setObj e.g (.map qi qi.size)).run M.P w= .ok () (X6 w e.g qi):=by simp[setObj,Sem.run,h3,X6]
   rwa [M4 h3]at this
  have hrun:(do match<-Instr.findKey kt u qi.toList with
   |some (k,x)=>do
    let k'<-Instr.keyThatStays (((qi[k]?).map (·.key)).getD u) u
    setObj e.g (.map (qi.modify k fun e'=>{e' with key:=k'}) qi.size)
    pure (.tuple #[x,goInt (((qi[k]?).map (·.born)).getD 0)])
   |none=>do
    let z<-zeroValue et
    setObj e.g (.map (qi.push {key:=u,val:=z,born:=qi.size}) (qi.size+1))
    pure (.tuple #[z,goInt qi.size]):Sem Value).run M.P w= .ok (.tuple #[xv, .int .i64 (j:Int)]) w:=by
   simp[hf,pY,<-heq,HN rR,qX,g1,goInt,n2]
  simp only[Dy]at hr;cases d with
  |v s=>
   obtain⟨rfl,rfl,rfl⟩:=hr;refine⟨qi,w,_,K,h3,jA,hrun,zw,A.H,?_⟩;simp only[Den,w6];exact⟨_,rfl,_,_,rfl,cW,_,_,rfl,rfl,rfl⟩
  |wZ es' rows=>
   obtain⟨rfl,rfl,rfl⟩:=hr;obtain⟨x,hH⟩:=A.H.take hb k2 (c:=1) rfl;rw[WE k2];have hsome:(wu i O).isSome:=by rw[hb];rfl
   have mE:i≠nx:=fun h=>by have:=A.H.lt hb;omega
   have hs2:=(hH.own.1 i (.deep true es (q9 rs j 1 (.v (.sl (.loc nx) 0 es' rows.length none)))) (by rw[Za,z7 mE,Y0 i _ O i hsome,zh rfl])).1;obtain⟨e2,o2,v2,q1,q2,q3,q4,_⟩:=W7 hs2 (r:=j) (c:=1) (row:=[k0, .v (.sl (.loc nx) 0 es' rows.length none)]) (by rw[Ys,zh rfl,k2];rfl) rfl;have kZ:(K++ [x]).get (.loc i)=some (some e):=Env.wE (zC _ _) he;rw[kZ]at q1;injection q1 with q1;injection q1 with q1;subst q1
   rw[h3]at q2;injection q2 with q2;subst q2
   simp only[ZJ,pY,Option.map_some,zj]at q3;subst q3 wU;refine⟨qi,w,_,_,h3,jA,hrun,zC _ _,hH,?_⟩;rw[Den];simp only[w6];exact⟨_,rfl,_,_,rfl,q4,_,_,rfl,rfl,rfl⟩
theorem ZcK(A:At M K w O nx ρ lk)(t:TypeId)(m k:Operand)(hr:(qH M.C lk O nx (.mapEntry t m k)).ok O nx v O' w8):Y9 M K w ⟨dst, .mapEntry t m k,ty,pos,af,gd⟩ ρ v O' w8:=by
 simp only[qH,PK]at hr;split at hr
 case h_2=>exact hr.elim
 rename_i kt et hs;obtain⟨d,hd,hm⟩:=A.T.jk t (by rw[hs];simp);rw[hs]at hm;simp only[jg]at hm;subst hm;split at hr
 case h_2=>exact hr.elim
 rename_i ks hks;split at hr
 case h_2=>exact hr.elim
 rename_i key hi;split at hr
 case h_2=>exact hr.elim
 rename_i i tn;split at hr
 case h_3=>exact hr.elim
 case h_2=>
  rename_i es rs hb;have wU:=A.L _ _ tn;simp only[Den,Env.get]at wU;obtain⟨e,he,hv⟩:=wU;obtain⟨qi,w',r,η',g1,g2,g3,g4,g5,g6⟩:=Z42 A hks (A.L _ _ hi) he hb hr
  have hrun:(Instr.mapEntry t (ρ m) (ρ k)).run M.P w= .ok r w':=by
   rw[<-g3];simp[Instr.mapEntry,Z8 hd,hv,JO g1,g2]
   rfl
  exact⟨r,w',η', .inl (by simp[execOp,hrun]),g4,g5,g6,fun h=>by cases h⟩
 rename_i rs hb;obtain⟨⟨dK,hro⟩,hr⟩:=hr;have wU:=A.L _ _ tn;simp only[Den,Env.get]at wU;obtain⟨e,he,hv⟩:=wU;obtain⟨wA,_⟩:=A.H.own.1 i _ hb;simp only[uZ,Env.get]at wA;obtain⟨e',es,h1,h2,h3,h4⟩:=wA;rw[he]at h1;cases h1;have hm:UX K rs es:=h4;have hdk:=A.L _ _ hi
 obtain⟨f,hf,qu⟩:=Ur A.T hks dK hdk (w:=w) hro (iE (es:=es.toList) (i:=0) (by simpa using hm.1) fun j row hj=>by
  obtain⟨en,g1,g2,g3⟩:=hm.2 j row hj
  exact⟨en,by simpa using g1,by omega,g3⟩)
 have jA:=(A.T.key kt ks hks).1 w K false key (ρ k) dK hdk;cases hq:U6 ks key 0 rs with
 |none=>
  rw[hq]at qu hr;have qu:f=none:=qu;subst qu;obtain⟨z,zv,hz,aC,hr⟩:=Gf A hr;obtain⟨rfl,rfl,rfl⟩:=hr;obtain⟨g1,g2⟩:=map_set A.H hb he h2 h3 (Ck hm hdk aC);rw[ug]at g1;refine⟨.tuple #[zv, .int .i64 (rs.length:Int)],_,K, .inl (by simp[execOp,Instr.mapEntry,Z8 hd,hv,JO h3,jA,hf,hz];rw[g1];simp[goInt,hm.1]),zw,g2,?_,fun h=>by cases h⟩;simp only[Den,w6];exact⟨_,rfl,_,_,rfl,aC,_,_,rfl,rfl,rfl⟩
 |some p=>
  obtain⟨j,u⟩:=p;rw[hq]at qu hr;obtain⟨xv,rfl,cW⟩:=qu;obtain⟨rfl,rfl,rfl⟩:=hr;obtain⟨k0,_,k2,k3⟩:=Ci hq;rw[Nat.sub_zero]at k2;obtain⟨en,n1,n2,n3⟩:=hm.2 j _ k2;simp only[w6]at n3;obtain⟨_,_,e1,fS,_,_,e2,_,e3⟩:=n3;cases e1;cases e2
  obtain⟨heq,rR⟩:=HH k3 hdk fS
  have qX:(es.modify j fun e=>{e with key:=ρ k})=es:=by
   apply xR;intro a;rw[y7];split
   rename_i hja;subst hja;rw[n1,heq];rfl
   rfl
  obtain⟨g1,g2⟩:=map_set A.H hb he h2 h3 hm;rw[M4 h3]at g1;refine⟨.tuple #[xv, .int .i64 (j:Int)],w,K, .inl (by simp[execOp,Instr.mapEntry,Z8 hd,hv,JO h3,jA,hf,n1,<-heq,HN rR,qX];rw[g1];simp[goInt,n2]),zw,A.H,?_,fun h=>by cases h⟩;simp only[Den,w6];exact⟨_,rfl,_,_,rfl,cW,_,_,rfl,rfl,rfl⟩
theorem Zep(H:uY M K w O nx){i es r c:Nat}{rs:List (List DC)}{row:List DC}{d0:DC}{s:SV}{u:Value}{e:kM}{arr:Array Value}{T:TypeId}{fz:Nat×Nat}(hb:wu i O=some (.deep false es rs))(he:K[i]?=some (some e))(hw:w.heap[e.g]?=some (.cells arr T fz))(hrow:rs[r]?=some row)(hc:row[c]?=some d0)(hd:Den K s u)(h1:u.oneCell'=true)
 {w':World} (hw':w'.heap[e.g]?=some (.cells (arr.toList.take (r*es+c)++ [u]++arr.toList.drop (r*es+c+1)).toArray T fz)) (qY:∀k,k≠e.g->w'.heap[k]?=w.heap[k]?) (hsz:w'.heap.size=w.heap.size) (ho:w'.os=w.os) (ht:w'.tape=w.tape) (hp:w'.output=w.output) (eR:w.drawn<=w'.drawn):
 r*es+c+1<=arr.size/\uY M K w' (qh i (.deep false es (q9 rs r c (.v s))) O) nx:=by
 have wA:=(H.own.1 i _ hb).1;have gK:=wA;obtain⟨_,hD,_⟩:=wA.qZ;have hbase:=(hD e he).1;have hK:=(hD e he).2 _ hw;simp only[uZ]at gK;obtain⟨d1,_⟩:=gK;have hfr:(ZB rs)[r]?=some (row.map ZT):=by rw[Yb,hrow];rfl
 have Cm:=(zf.1 hc).1;rcases d1 with⟨h,_⟩|⟨e',z1z,T',fz',q1,q2,q3,q4⟩
 rw[show K.get (.loc i)=some (some e)from he]at h;cases h;rw[show K.get (.loc i)=some (some e)from he]at q1;injection q1 with q1;injection q1 with q1;subst q1
 rw[hw]at q2;injection q2 with q2;injection q2 with q2 q2b q2c;subst q2 q2b q2c
 obtain⟨g1,g2,g3,g4⟩:=q3 rfl;rw[g4]at q4;have hdl:w6 K [s] [u]:=by simp only[w6];exact⟨_,_,rfl,hd,rfl⟩
 obtain⟨hfit,hrows⟩:=Nz (c:=c) g2 g3 q4 hfr hdl (fun x hx=>by rw[zL.1 hx];exact h1) (by simp;omega);simp only[List.length_singleton]at hfit hrows
 have ku:(row.map ZT).take c++ [s]++(row.map ZT).drop (c+1)=(row.set c (.v s)).map ZT:=by
  rw[xQ,List.set_eq_take_append_cons_drop,zh (by simpa using Cm)];simp[ZT]
 rw[ku]at hrows
 have tq:(ZB rs).set r ((row.set c (.v s)).map ZT)=ZB (q9 rs r c (.v s)):=by
  apply yx;intro a;rw[WD,xH];by_cases ha:r=a
  .subst ha;have:=(zf.1 hfr).1;simp only[zh,hfr,Option.map_some,yR,this,xQ]
  rw[z7 ha,z7 (fun h=>ha h.symm)]
 rw[tq]at hrows;have hrl:row.length=es:=by have:=(q4 r _ hfr).1;simpa using this
 have jB:∀a,a≠r*es+c->(arr.toList.take (r*es+c)++ [u]++arr.toList.drop (r*es+c+1)).toArray[a]?=arr[a]?:=by
  intro a ha;rw[yY,zM,List.getElem?_append];split
  .rename_i hlt;rw[zu,Array.length_toList]at hlt;rw[zQ,zh (by omega),uP]
  .rename_i hge;rw[zu,Array.length_toList,yQ (by omega)]at hge⊢;rw[List.singleton_append,List.getElem?_cons,z7 (by omega),y8,uP];congr 1;omega
 have Gg:(arr.toList.take (r*es+c)++ [u]++arr.toList.drop (r*es+c+1)).toArray.size=arr.size:=by
  simp only[yl,zg,zu,zF,Array.length_toList,List.length_singleton];omega
 have kg:∀a b y,Yl (q9 rs r c (.v s)) a b=some y->Yl rs a b=some y/\ZJ (.cells (arr.toList.take (r*es+c)++ [u]++arr.toList.drop (r*es+c+1)).toArray T fz) es a b=ZJ (.cells arr T fz) es a b:=by
  intro a b y h;obtain⟨h5,h6⟩:=JY h;refine⟨h5,jB _ fun hab=>h6 ?_⟩;obtain⟨y1,y2⟩:=y;obtain⟨Gh,h7,h8⟩:=wN.1 h5;have hal:Gh.length=es:=by have:=(q4 a (Gh.map ZT) (by rw[Yb,h7];rfl)).1;simpa using this
  have cQ:=(zf.1 h8).1
  have key:∀{a b r c:Nat},b<es->c<es->a<r->a*es+b=r*es+c->False:=by
   intro a b r c hb hc har he;have:(a+1)*es<=r*es:=yo _ har;rw[yB]at this;omega
  rcases Nat.lt_trichotomy a r with h9|rfl|h9
  exact(key (by omega) (by omega) h9 hab).elim;exact⟨rfl,by omega⟩;exact(key (by omega) (by omega) h9 hab.symm).elim
 refine⟨hfit,H.oE hb he qY hsz ho ht hp ?_ eR fun m fm=>?_⟩
 .refine uZ.jF (mp:=false) (.inr ⟨e,_,T,fz,show K.get (.loc i)=some (some e)from he,hw',fun _=>⟨by rw[Gg];exact g1,by rw[Gg];exact g2,by rw[<-tq,xE];exact g3,g4⟩,by rw[g4];exact hrows⟩) (fun h=>by cases h) fun e' h2=>?_;rw[show K.get (.loc i)=some (some e)from he]at h2;injection h2 with h2;injection h2 with h2;subst h2
  refine⟨hbase,fun o' ho'=>?_⟩;rw[hw']at ho';injection ho' with ho';subst ho'
  refine⟨fun a b dH cq hk=>?_,fun a b a' b' y y' z z' k h1 h2 h3 h4 h5 h6=>?_⟩
  .obtain⟨p1,p2⟩:=kg a b _ hk;obtain⟨z,p3,p4,p5⟩:=hK.sat a b _ _ p1;refine⟨z,p2.trans p3,p4.keep fun k hz=>qY k fun e=>?_,p5⟩;subst e;exact p5 hz
  .obtain⟨p1,p2⟩:=kg a b _ h1;obtain⟨p1',p2'⟩:=kg a' b' _ h2;exact hK.ne a b a' b' y y' z z' k p1 p1' (p2▸h3) (p2'▸h4) h5 h6
 .rcases fm.of (e:=e) (show K.get (.loc i)=some (some e)from he)with rfl|fm
  exact wq.own he
  .simp only[wZ]at fm;obtain⟨o',a,b,y,z,f1,f2,f3,f4⟩:=fm;rw[hw']at f1;injection f1 with f1;subst f1
   obtain⟨p1,p2⟩:=kg a b _ f2;exact⟨e,he, .inr (by simp only[wZ];exact⟨_,a,b,y,z,hw,p1,p2▸f3,f4⟩)⟩
theorem Zjh(A:At M K w O nx ρ lk)(t:TypeId)(x y:Operand)(hr:(qH M.C lk O nx (.store t x y)).ok O nx v O' w8):Y9 M K w ⟨dst, .store t x y,ty,pos,af,gd⟩ ρ v O' w8:=by
 simp only[qH,Po]at hr;split at hr
 exact hr.elim;rename_i hok;have hsh:M.C.T.sh t≠ .other:=by intro h;simp[jo,h]at hok
 split at hr
 exact hr.elim;rename_i mu;have mu:=JA mu;split at hr
 case h_2=>exact hr.elim
 rename_i p hx;split at hr
 case h_2=>exact hr.elim
 rename_i sv hy;split at hr
 .rename_i i r es c;split at hr
  .rename_i es' rs hb;split at hr
   case h_2=>exact hr.elim
   rename_i qX hs1;have qX:=Zs qX;have hs1:=Zs hs1;subst qX;split at hr
   case h_2=>exact hr.elim
   rename_i s hvs;have wU:=A.L _ _ hx;have kR:=A.L _ _ hy;simp only[Den]at wU;obtain⟨e,he,hv⟩:=wU;cases hcd:nK rs r c with
   |none=>rw[hcd]at hr;exact hr.elim
   |some q=>
    obtain⟨a,d0⟩:=q;rw[hcd]at hr;have hr:(iw M.C.T t O i (fun d=> .deep false es (rs.modify r fun row=>row.set c d)) s).ok O nx v O' w8:=hr;obtain⟨row,hrow,hcell⟩:=NY hcd;obtain⟨h5,h6⟩:=W3 kR hvs;simp only[w6]at h5;obtain⟨u,us,h5,h7,h8⟩:=h5;have wA:=(A.H.own.1 i _ hb).1;simp only[uZ]at wA;obtain⟨d1,hD⟩:=wA;rcases d1 with⟨h,_⟩|⟨e',arr,T,fz,q1,q2,q3,q4⟩
    rw[he]at h;cases h;rw[he]at q1;injection q1 with q1;injection q1 with q1;subst q1
    obtain⟨g1,g2,g3,g4⟩:=q3 rfl;obtain⟨ie,hie,qw,_⟩:=A.T.info t hsh;have Cn:us=[]:=h8;subst Cn;have hone:∀z∈ [u],z.oneCell'=true:=fun z hz=>h6 z (by rw[h5];exact hz)
    have hfit:r*es+c+1<=arr.size:=by
     have hfr:(ZB rs)[r]?=some (row.map ZT):=by rw[Yb,hrow];rfl
     obtain⟨_,g6⟩:=q4 r _ hfr;obtain⟨z,g7,_⟩:=g6 c (ZT d0) (by rw[z6,hcell];rfl);rw[g4]at g7;have:=(zz.1 g7).1;omega
    have hst:=X2 (P:=M.P) e.g (r*es+c) T fz [u] 0 arr w q2 (by simpa using hfit) g1 hone;simp only[Nat.add_zero]at hst
    have hcs:(ρ y).cells.size=ie.size:=by
     have:(ρ y).cells.toList.length=M.C.T.size t:=by rw[h5,hs1];rfl
     rw[qw];simpa using this
    obtain⟨_,hH⟩:=Zep A.H hb he q2 hrow hcell h7 (hone u (zL.2 rfl)) (setRow_heap w e.g arr _ T fz q2) (fun k hk=>setRow_other w e.g k _ hk) (setRow_size _ _ _) rfl rfl rfl (zo _);have hsome:(wu i O).isSome:=by rw[hb];rfl
    obtain⟨H2,rfl,rfl⟩:=Cd hr (mp:=false) (es:=es) (nN:=q9 rs r c (.v s)) (r:=r) (c:=c) (row:=row.set c (.v s)) (fun d=>by rw[jV];rfl) rfl (by rw[Ys,zh rfl,hrow];rfl) (by rw[vu (zf.1 hcell).1]) hsome hH;refine⟨undef,_,K, .inr ⟨?_,rfl⟩,zw,H2,V7 K,fun h=>by cases h⟩;rw[g4,zy]at hv;simp only[execOp,hv,Instr.storeAt,Instr.sureAddr,storeVar,Sem.run_bind,Sem.run_pure,Result.andThen_ok,Zv hie,Sem.run_ite,hcs];rw[z7 (by simp)];simp only[Sem.run_bind,Sem.run_pure,Result.andThen_ok,h5,hst]
    rfl
  exact NB A t x y hsh mu hx hy hr
 exact NB A t x y hsh mu hx hy hr
end
end Go.Sx
namespace Go.Sx
open Go
section
variable {M:Mx}{K:Env}{w:World}{O:w9}{nx:Nat}{ρ:Operand->Value}{lk:Operand->Option SV}{v:SV}{O':w9}{w8:Nat}{dst:Option Tmp}{ty:TypeId}{pos:String}{af:Array Edge}{gd:Option (Nat×Bool)}
theorem M5{rs:List (List SV)}{es:Array MapEntry}(hm:UX K rs es){n:Int}(h0:0<=n)(h1:n< (rs.length:Int)):es.findIdx? (fun e=>(e.born:Int)==n)=some n.toNat:=by
 have at':∀(j:Nat) (hj:j<es.size),es[j].born=j:=fun j hj=>by
  obtain⟨e,e1,e2,_⟩:=hm.2 j _ (z1 (by rw[<-hm.1];exact hj));rw[yP hj]at e1;injection e1 with e1;rw[e1];exact e2
 have hn:n.toNat<es.size:=by rw[hm.1];omega
 rw[Array.findIdx?_eq_some_iff_getElem];refine⟨hn,?_,fun j hj=>?_⟩;rw[at' _ hn];simp;omega;rw[at' j (by omega)];simp;omega
theorem Z8f(A:At M K w O nx ρ lk)(t:TypeId)(m k x:Operand)(hr:(qH M.C lk O nx (.entryStore t m k x)).ok O nx v O' w8):Y9 M K w ⟨dst, .entryStore t m k x,ty,pos,af,gd⟩ ρ v O' w8:=by
 simp only[qH,PL]at hr;split at hr
 case h_2=>exact hr.elim
 rename_i kn n hi;split at hr
 case h_2=>exact hr.elim
 rename_i sv hx;split at hr
 case h_2=>exact hr.elim
 rename_i i tn;split at hr
 case h_3=>exact hr.elim
 case h_2=>
  rename_i es rs hb;split at hr
  case h_2=>exact hr.elim
  rename_i kt et hs;obtain⟨⟨hn0,mG⟩,hr⟩:=hr;have wU:=A.L _ _ tn;simp only[Den,Env.get]at wU;obtain⟨e,he,hv⟩:=wU;have wA:=(A.H.own.1 i _ hb).1;simp only[uZ,Env.get]at wA;obtain⟨⟨⟨e',qi,h1,h2,h3,h4,h5⟩,_⟩,_⟩:=wA;rw[show K.get (.loc i)=some (some e)from he]at h1;injection h1 with h1;injection h1 with h1;subst h1
  have hm:UX K (ZB rs) qi:=⟨h4,h5⟩;have hsome:(wu i O).isSome:=by rw[hb];rfl
  have hdk:ρ k= .int kn n:=A.L _ _ hi;have cW:=A.L _ _ hx;have hlt:n.toNat<rs.length:=by omega
  have cu:rs[n.toNat]?=some rs[n.toNat]:=z1 hlt;have iN:(ZB rs)[n.toNat]?=some (rs[n.toNat].map ZT):=by rw[Yb,cu];rfl
  obtain⟨en,n1,n2,n3⟩:=hm.2 _ _ iN
  obtain⟨k0,d0,hkv,fS⟩:∃k0 d0,rs[n.toNat]=[k0,d0]/\Den K (ZT k0) en.key:=by
   cases hq:rs[n.toNat]with
   |nil=>rw[hq]at n3;simp[w6]at n3
   |cons a l=>
    rw[hq]at n3;cases l with
    |nil=>simp[w6]at n3
    |cons b l=>
     cases l with
     |nil=>simp only[zI,yH,w6]at n3;obtain⟨_,_,e1,d1,_⟩:=n3;cases e1;exact⟨a,b,rfl,d1⟩
     |cons c l=>
      simp only[zI,w6]at n3;obtain⟨_,_,e1,_,_,_,e2,_,_,_,e3,_⟩:=n3;cases e1;cases e2;cases e3
  rw[hkv]at cu
  have hmod:(qi.modify n.toNat fun e=>{e with key:=en.key,val:=ρ x})=qi.modify n.toNat fun e=>{e with val:=ρ x}:=by
   apply xR;intro a;rw[y7,y7];split
   rename_i hja;subst hja;rw[n1];rfl
   rfl
  obtain⟨hp1,hp2⟩:=M0 (es:=es) hm cu n1 fS cW;rw[hmod]at hp1 hp2;obtain⟨H2,rfl,rfl⟩:=Cd hr (mp:=true) (es:=es) (nN:=q9 rs n.toNat 1 (.v sv)) (r:=n.toNat) (c:=1) (row:=[k0, .v sv]) (fun d=>by rw[WE cu,jV]) (by rw[WE cu]) (by rw[Ys,zh rfl,cu];rfl) rfl hsome (by rw[WE cu];exact Cl A.H hb he h3 hp1 hp2)
  have g1:(setObj e.g (.map (qi.modify n.toNat fun e=>{e with val:=ρ x}) qi.size)).run M.P w= .ok () (X6 w e.g (qi.modify n.toNat fun e=>{e with val:=ρ x})):=by
   simp[setObj,Sem.run,h3,X6]
  exact⟨undef,_,K, .inr ⟨by simp[execOp,Instr.entryStore,hv,JO h3,hdk,asInt,asIntOf,M5 hm hn0 (by rw[Yc];exact mG)];rw[g1];rfl,rfl⟩,zw,H2,V7 K,fun h=>by cases h⟩
 rename_i rs hb;obtain⟨⟨hn0,mG⟩,rfl,rfl,rfl⟩:=hr;have wU:=A.L _ _ tn;simp only[Den,Env.get]at wU;obtain⟨e,he,hv⟩:=wU;obtain⟨wA,_⟩:=A.H.own.1 i _ hb;simp only[uZ,Env.get]at wA;obtain⟨e',es,h1,h2,h3,h4⟩:=wA;rw[he]at h1;cases h1;have hm:UX K rs es:=h4;have hdk:ρ k= .int kn n:=A.L _ _ hi;have cW:=A.L _ _ hx;have hlt:n.toNat<rs.length:=by omega
 have hrow:rs[n.toNat]?=some rs[n.toNat]:=z1 hlt;obtain⟨en,n1,n2,n3⟩:=hm.2 _ _ hrow
 obtain⟨k0,v0,hkv,fS⟩:∃k0 v0,rs[n.toNat]=[k0,v0]/\Den K k0 en.key:=by
  cases hq:rs[n.toNat]with
  |nil=>rw[hq]at n3;simp[w6]at n3
  |cons a l=>
   rw[hq]at n3;cases l with
   |nil=>simp[w6]at n3
   |cons b l=>
    cases l with
    |nil=>simp only[w6]at n3;obtain⟨_,_,e1,d1,_⟩:=n3;cases e1;exact⟨a,b,rfl,d1⟩
    |cons c l=>
     simp only[w6]at n3;obtain⟨_,_,e1,_,_,_,e2,_,_,_,e3,_⟩:=n3;cases e1;cases e2;cases e3
 rw[hkv]at hrow
 have hmod:(es.modify n.toNat fun e=>{e with key:=en.key,val:=ρ x})=es.modify n.toNat fun e=>{e with val:=ρ x}:=by
  apply xR;intro a;rw[y7,y7];split
  rename_i hja;subst hja;rw[n1];rfl
  rfl
 have hput:=Cj hm hrow fS cW;rw[hmod]at hput;obtain⟨g1,g2⟩:=map_set A.H hb he h2 h3 hput;rw[xX]at g1;exact⟨undef,_,K, .inr ⟨by simp[execOp,Instr.entryStore,hv,JO h3,hdk,asInt,asIntOf,M5 hm hn0 mG];rw[g1];rfl,rfl⟩,zw,g2,V7 K,fun h=>by cases h⟩
end
section
variable {M:Mx}{K:Env}{w:World}{O:w9}{nx:Nat}{ρ:Operand->Value}{lk:Operand->Option SV}{v:SV}{O':w9}{w8:Nat}{dst:Option Tmp}{ty:TypeId}{pos:String}{af:Array Edge}{gd:Option (Nat×Bool)}
theorem Zmf(A:At M K w O nx ρ lk)(args:Array Operand)(ts:Array TypeId)(hr:(qH M.C lk O nx (.call ⟨.builtin .min,args,ts⟩)).ok O nx v O' w8):Y9 M K w ⟨dst, .call ⟨.builtin .min,args,ts⟩,ty,pos,af,gd⟩ ρ v O' w8:=by
 simp only[qH,VC,KY]at hr;split at hr
 case h_2=>exact hr.elim
 rename_i x y ha;obtain rfl:args= #[x,y]:=by apply yC;simpa using ha
 split at hr
 case h_2=>exact hr.elim
 rename_i k a hx;split at hr
 case h_2=>exact hr.elim
 rename_i k' b hy;have h1:=V4 (A.L _ _ hx);have h2:=V4 (A.L _ _ hy);exact A.val hr ⟨.int k (if b<a then b else a), .inl (by simp[execOp,resolve,invoke,builtin,h1,h2,Builtin.min_,Builtin.min2]),rfl⟩
theorem Zmg(A:At M K w O nx ρ lk)(args:Array Operand)(ts:Array TypeId)(hr:(qH M.C lk O nx (.call ⟨.builtin .max,args,ts⟩)).ok O nx v O' w8):Y9 M K w ⟨dst, .call ⟨.builtin .max,args,ts⟩,ty,pos,af,gd⟩ ρ v O' w8:=by
 simp only[qH,VC,KZ]at hr;split at hr
 case h_2=>exact hr.elim
 rename_i x y ha;obtain rfl:args= #[x,y]:=by apply yC;simpa using ha
 split at hr
 case h_2=>exact hr.elim
 rename_i k a hx;split at hr
 case h_2=>exact hr.elim
 rename_i k' b hy;have h1:=V4 (A.L _ _ hx);have h2:=V4 (A.L _ _ hy);exact A.val hr ⟨.int k (if a<b then b else a), .inl (by simp[execOp,resolve,invoke,builtin,h1,h2,Builtin.max_,Builtin.max2]),rfl⟩
theorem Zji(A:At M K w O nx ρ lk)(t:TypeId)(x:Operand)(hr:(qH M.C lk O nx (.range t x)).ok O nx v O' w8):Y9 M K w ⟨dst, .range t x,ty,pos,af,gd⟩ ρ v O' w8:=by
 simp only[qH,PC]at hr;split at hr
 case h_2=>exact hr.elim
 rename_i hs;obtain⟨d,hd,hm⟩:=A.T.jk t (by rw[hs];simp);rw[hs]at hm;simp only[jg]at hm;subst hm;split at hr
 case h_2=>exact hr.elim
 rename_i s hx;obtain⟨rfl,rfl,rfl⟩:=hr;have wU:=tc (A.L _ _ hx);refine⟨.pointer (some ⟨w.heap.size,0,none⟩),X5 w (.stringIter ⟨s.toArray⟩ 0),K++ [some ⟨w.heap.size,0,0⟩], .inl ?_,zC _ _,?_,?_,fun _ h=>absurd h (by simp)⟩;simp[execOp,wU,Instr.range,Z8 hd,X5]
 .refine A.H.alloc (w':=X5 w (.stringIter ⟨s.toArray⟩ 0)) rfl rfl rfl rfl 0 0 ?_;simp only[uZ];exact⟨_,ZR A.H.len _,rfl,YB (w:=w) (w':=X5 w (.stringIter ⟨s.toArray⟩ 0)) rfl⟩
 simp only[Den];exact⟨_,ZR A.H.len _,by simp⟩
theorem Zl3(A:At M K w O nx ρ lk)(x:Operand)(b:Bool)(hr:(qH M.C lk O nx (.next x b)).ok O nx v O' w8):Y9 M K w ⟨dst, .next x b,ty,pos,af,gd⟩ ρ v O' w8:=by
 simp only[qH,PD]at hr;split at hr
 case h_2=>exact hr.elim
 split at hr
 case h_2=>exact hr.elim
 rename_i i r es c hx;split at hr
 case h_2=>exact hr.elim
 rename_i s pos' hh;split at hr
 case h_2=>exact hr.elim
 rename_i hz;have hz:=Zs hz;have wU:=A.L _ _ hx;simp only[Den,Env.get]at wU;obtain⟨en,hb,wU⟩:=wU;obtain⟨wA,_⟩:=A.H.own.1 i _ hh;simp only[uZ,Env.get]at wA;obtain⟨aB,h1,h2,h3⟩:=wA;rw[hb]at h1;injection h1 with h1;injection h1 with h1;subst h1
 rw[h2,hz]at wU;simp only[zy]at wU;have hlt:en.g<w.heap.size:=(zz.1 h3).1;have kZ:(getObj en.g).run M.P w= .ok (.stringIter ⟨s.toArray⟩ pos') w:=by simp[getObj,Sem.run,h3]
 simp only[wW.ok,yc]at hr;split at hr
 .rename_i hp;obtain⟨rfl,rfl,rfl⟩:=hr;have ku:(setObj en.g (.stringIter ⟨s.toArray⟩ (pos'+(Utf8.decode ⟨s.toArray⟩ pos').2))).run M.P w= .ok () {w with heap:=w.heap.setIfInBounds en.g (.stringIter ⟨s.toArray⟩ (pos'+(Utf8.decode ⟨s.toArray⟩ pos').2))}:=by simp[setObj,Sem.run,h3]
  refine⟨.tuple #[.bool true, .int .i64 (pos':Int), .int .i32 ((Utf8.decode ⟨s.toArray⟩ pos').1:Int)],{w with heap:=w.heap.setIfInBounds en.g (.stringIter ⟨s.toArray⟩ (pos'+(Utf8.decode ⟨s.toArray⟩ pos').2))},K, .inl ?_,zw,?_,?_,fun h=>by cases h⟩
  .simp[execOp,wU,Instr.next,kZ,VW,hp,ku,goInt]
  .refine A.H.fu hh hb (fun k hk=>?_) (by simp) rfl rfl rfl ?_;simp[yW,yX hk]
   .simp only[uZ,Env.get];exact⟨en,hb,h2,by simp[hlt]⟩
  .simp only[Den,w6];exact⟨_,rfl,_,_,rfl,rfl,_,_,rfl,rfl,_,_,rfl,rfl,rfl⟩
 .rename_i hp;obtain⟨rfl,rfl,rfl⟩:=hr;refine A.same (u:= .tuple #[.bool false]) (.inl ?_) ?_ rfl rfl
  .simp[execOp,wU,Instr.next,kZ,VW,hp]
  simp only[Den,w6];exact⟨_,rfl,_,_,rfl,rfl,rfl⟩
theorem M6(l:List UInt8):(l.map bytesRow).map iy=l:=by
 rw[xF];conv=>rhs;rw[<-List.map_id l]
 apply yO;intro b _;simp[bytesRow,iy]
theorem M7{K:Env}:∀{l:List UInt8} {news:List Value},wI K 1 (l.map bytesRow) news->news=l.map fun c=> .int .u8 (c.toNat:Int)
 | [],news,h=>by simpa[wI]using h
 |c::l,news,h=>by
  simp only[zI,wI]at h;obtain⟨us,ws,rfl,_,h1,h2⟩:=h;simp only[bytesRow,w6,Den]at h1;obtain⟨u,us',rfl,rfl,rfl⟩:=h1;rw[M7 h2];rfl
theorem Zer(A:At M K w O nx ρ lk)(a b:TypeId)(x:Operand)(hr:(qH M.C lk O nx (.convert a b x)).ok O nx v O' w8):Y9 M K w ⟨dst, .convert a b x,ty,pos,af,gd⟩ ρ v O' w8:=by
 simp only[qH,Pt]at hr;split at hr
 exact hr.elim;rename_i hok;have K8:M.C.T.sh a≠ .other:=by intro h;simp[jo,h]at hok
 obtain⟨da,hda,hma⟩:=A.T.jk a K8
 have oF:∀{t e:TypeId},KV M.C.T t=some e->M.P.underlying t=some (.slice e)/\M.P.underlying e=some (.int .u8):=by
  intro t e h;unfold KV at h;split at h
  case h_2=>cases h
  rename_i q hq;split at h
  case h_2=>cases h
  rename_i td;injection h with h;subst h;obtain⟨d,hd,hm⟩:=A.T.jk t (by rw[hq];simp);rw[hq]at hm;simp only[jg]at hm;subst hm;obtain⟨d,hd',hm⟩:=A.T.jk q (by rw[td];simp);rw[td]at hm;simp only[jg]at hm;subst hm;exact⟨hd,hd'⟩
 split at hr
 .rename_i k n hx;have wU:=V4 (A.L _ _ hx);split at hr
  case h_3=>exact hr.elim
  .rename_i k' hs;obtain⟨d,hd,hm⟩:=A.T.jk b (by rw[hs];simp);rw[hs]at hm;simp only[jg]at hm;subst hm;refine A.val hr ⟨.int k' (k'.wrap n), .inl ?_,rfl⟩
   have:(convert a b (.int k n)).run M.P w= .ok (.int k' (k'.wrap n)) w:=by
    simp only[convert,Sem.run_bind,Z8 hda,Z8 hd,Result.andThen_ok];cases da<;>rfl
   simp[execOp,wU,this]
  .rename_i hs;obtain⟨d,hd,hm⟩:=A.T.jk b (by rw[hs];simp);rw[hs]at hm;simp only[jg]at hm;subst hm;refine A.val hr ⟨.string (Utf8.encode n), .inl ?_,rfl⟩
   have:(convert a b (.int k n)).run M.P w= .ok (.string (Utf8.encode n)) w:=by
    simp only[convert,Sem.run_bind,Z8 hda,Z8 hd,Result.andThen_ok];cases da<;>rfl
   simp[execOp,wU,this]
 .rename_i s hx;have wU:=tc (A.L _ _ hx);split at hr
  .rename_i hs;obtain⟨d,hd,hm⟩:=A.T.jk b (by rw[hs];simp);rw[hs]at hm;simp only[jg]at hm;subst hm;refine A.val hr ⟨.string ⟨s.toArray⟩, .inl ?_,rfl⟩
   have:(convert a b (.string ⟨s.toArray⟩)).run M.P w= .ok (.string ⟨s.toArray⟩) w:=by
    simp only[convert,Sem.run_bind,Z8 hda,Z8 hd,Result.andThen_ok];cases da<;>rfl
   simp[execOp,wU,this]
  .split at hr
   case h_2=>exact hr.elim
   rename_i e he;obtain⟨hd,hd'⟩:=oF he;split at hr
   case h_2=>exact hr.elim
   rename_i hsz;have hsz:=Zs hsz;split at hr
   case h_2=>exact hr.elim
   rename_i hsrc;obtain⟨da',Co,iO⟩:=A.T.jk a (by rw[hsrc];simp);rw[hsrc]at iO;simp only[jg]at iO;subst iO;obtain⟨hlen,rfl,rfl,rfl⟩:=hr;have hrun:=run_bytes_of_string (P:=M.P) w a b e ⟨s.toArray⟩ Co hd hd';rw[VW]at hrun;have hge:=grownCap_ge w s.length 0 e;have Cp:(Go.bytesRow ⟨s.toArray⟩ (grownCap w s.length 0 e)).size=grownCap w s.length 0 e:=by simp[Go.bytesRow,VW];omega
   refine⟨_,w.drew.alloc (.cells (Go.bytesRow ⟨s.toArray⟩ (grownCap w s.length 0 e)) e ((Go.bytesRow ⟨s.toArray⟩ (grownCap w s.length 0 e)).size,(Go.bytesRow ⟨s.toArray⟩ (grownCap w s.length 0 e)).size+1)),K++ [some ⟨w.heap.size,0,grownCap w s.length 0 e⟩],
    .inl (by simp only[execOp,wU,Sem.run_bind,hrun,Result.andThen_ok,Sem.run_pure]),zC _ _,?_,W5 A.H.len hge,fun _ h=>absurd h (by simp)⟩
   refine uY.alloc (w':=w.drew.alloc (.cells (Go.bytesRow ⟨s.toArray⟩ (grownCap w s.length 0 e)) e ((Go.bytesRow ⟨s.toArray⟩ (grownCap w s.length 0 e)).size,(Go.bytesRow ⟨s.toArray⟩ (grownCap w s.length 0 e)).size+1))) A.H rfl rfl rfl rfl 0 _ ?_;simp only[uZ];right
   refine⟨_,Go.bytesRow ⟨s.toArray⟩ (grownCap w s.length 0 e),e,((Go.bytesRow ⟨s.toArray⟩ (grownCap w s.length 0 e)).size,(Go.bytesRow ⟨s.toArray⟩ (grownCap w s.length 0 e)).size+1),ZR A.H.len _,YB (w:=w) (o:= .cells (Go.bytesRow ⟨s.toArray⟩ (grownCap w s.length 0 e)) e ((Go.bytesRow ⟨s.toArray⟩ (grownCap w s.length 0 e)).size,(Go.bytesRow ⟨s.toArray⟩ (grownCap w s.length 0 e)).size+1)) rfl,fun _=>⟨?_,by rw[Cp,xC],by simpa using hge,rfl⟩,?_⟩;intro o ho h;omega
   .intro k row hk;rw[z6]at hk;cases hq:s[k]? with
    |none=>rw[hq]at hk;cases hk
    |some c=>
     rw[hq]at hk;injection hk with hk;subst hk;refine⟨rfl,fun j sv hj=>?_⟩;cases j with
     |succ j=>simp[bytesRow]at hj
     |zero=>
      simp[bytesRow]at hj;subst hj;have pz:=(zf.1 hq).1;refine⟨.int .u8 (c.toNat:Int),?_,rfl,rfl⟩;simp only[Go.bytesRow,zy,xC,Nat.add_zero];rw[yd (by simpa using pz)];simp[hq]
 .rename_i bb r es len lim hx;split at hr
  case h_2=>exact hr.elim
  rename_i hs;obtain⟨d,hd,hm⟩:=A.T.jk b (by rw[hs];simp);rw[hs]at hm;simp only[jg]at hm;subst hm;split at hr
  case h_2=>exact hr.elim
  rename_i e he;obtain⟨fB,hd2⟩:=oF he;split at hr
  case h_2=>exact hr.elim
  rename_i xs m hrows;obtain⟨⟨hl,l,hxl⟩,hr⟩:=hr;have pq:=A.L _ _ hx;obtain⟨news,N⟩:=Xi A pq hrows hl
  have hm:m=len:=by
   unfold lV at hrows;simp only at hrows;split at hrows
   case h_2=>cases hrows
   split at hrows
   case h_2=>cases hrows
   split at hrows
   case h_2=>cases hrows
   simp only[zj,yF]at hrows;exact hrows.2.symm
  subst hm;subst hxl;rw[M6]at hr;refine A.val hr ⟨.string ⟨l.toArray⟩, .inl ?_,rfl⟩;have hnews:=M7 N.den;have hf:=N.first w rfl;simp only[zA]at hl;simp only[Den]at pq;rcases pq with⟨_,wU,h0⟩|⟨en,o,_,wU,_⟩
  .subst h0;have:l=[]:=zJ.1 hl;subst this;simp[execOp,wU,convert,Z8 fB,Z8 hd,Z8 hd2,Conv.bytesToString]
   rfl
  .rw[wU]at hf;simp only[Builtin.firstCells,xC]at hf
   have Gi:(convert a b (.slice (some ⟨en.g,o,none⟩) m (lim.getD en.cap-r))).run M.P w= .ok (.string ⟨l.toArray⟩) w:=by
    rw[run_convert_bytes_string w a b e _ m _ fB hd2 hd]
    have hf':(loadCells ⟨en.g,o,none⟩ m).run M.P w= .ok ((l.map (fun c=>(c.toNat:Int))).map (Value.int .u8)).toArray w:=by
     rw[hf,hnews];simp
    rw[run_bytesToString w _ m _ _ hf',foldl_push_byteCells];simp
   simp[execOp,wU,Gi]
 .rename_i hx;obtain⟨wU,_⟩:ρ x= .slice none 0 0/\True:=⟨And.left (A.L _ _ hx),trivial⟩;split at hr
  case h_2=>exact hr.elim
  rename_i hs;obtain⟨d,hd,hm⟩:=A.T.jk b (by rw[hs];simp);rw[hs]at hm;simp only[jg]at hm;subst hm;split at hr
  case h_2=>exact hr.elim
  rename_i e he;obtain⟨fB,hd2⟩:=oF he;refine A.val hr ⟨.string ⟨[].toArray⟩, .inl ?_,rfl⟩;simp[execOp,wU,convert,Z8 fB,Z8 hd,Z8 hd2,Conv.bytesToString]
  rfl
 exact hr.elim
theorem Zl4(A:At M K w O nx ρ lk)(args:Array Operand)(ts:Array TypeId)(hr:(qH M.C lk O nx (.call ⟨.builtin .copy,args,ts⟩)).ok O nx v O' w8):Y9 M K w ⟨dst, .call ⟨.builtin .copy,args,ts⟩,ty,pos,af,gd⟩ ρ v O' w8:=by
 simp only[qH,VC,PO]at hr;split at hr
 case h_2=>exact hr.elim
 rename_i dd x ha;obtain rfl:args= #[dd,x]:=by apply yC;simpa using ha
 split at hr
 case h_2=>exact hr.elim
 rename_i t u htu;obtain rfl:ts= #[t,u]:=by apply yC;simpa using htu
 split at hr
 case h_2=>exact hr.elim
 rename_i e hst;obtain⟨d,hd,hm⟩:=A.T.jk t (by rw[hst];simp);rw[hst]at hm;simp only[jg]at hm;subst hm;split at hr
 exact hr.elim;rename_i hok;have hsh:M.C.T.sh e≠ .other:=by intro h;simp[jo,h]at hok
 obtain⟨ie,hie,qw,_⟩:=A.T.info e hsh;split at hr
 case h_2=>exact hr.elim
 rename_i i r es n lim mz;have bg:=A.L _ _ mz;split at hr
 exact hr.elim;rename_i NW hx;have pq:=A.L _ _ hx;split at hr
 exact hr.elim;rename_i xs m hrows;split at hr
 case h_2=>exact hr.elim
 rename_i es' rs hh;split at hr
 case h_2=>exact hr.elim
 rename_i h1;have h1:=Zs h1;subst h1;split at hr
 case h_2=>exact hr.elim
 rename_i h2;have h2:=Zs h2;subst h2;obtain⟨⟨q1,q2,q3⟩,rfl,rfl,rfl⟩:=hr;obtain⟨news,N⟩:=Xi A pq hrows q1;obtain⟨wA,_⟩:=A.H.own.1 i _ hh;simp only[uZ,Env.get]at wA;have hmin:Nat.min m n=m:=yQ q2;have fB:=N.first w rfl
 have fin:∀{w':World},(Builtin.copy_ #[t,u] ty #[ρ dd,ρ x]).run M.P w= .ok (.int .i64 m) w'->sZ M.P ⟨dst, .call ⟨.builtin .copy, #[dd,x], #[t,u]⟩,ty,pos,af,gd⟩ ρ w (.int .i64 m) w':=by
  intro w' h;exact .inl (by simp[execOp,resolve,invoke,builtin,h])
 simp only[Den,Env.get]at bg;rcases bg with⟨p1,bN,p3⟩|⟨en,o,p1,bN,p3,p4,p5⟩
 .rcases wA with⟨p6,rfl⟩|⟨aB,arr,T,fz,p6,_⟩
  case inr=>rw[p1]at p6;cases p6
  subst p3;have hm0:m=0:=by omega
  subst hm0;have hx0:xs=[]:=zJ.1 q1;subst hx0;refine⟨_,w,K,fin ?_,zw,?_,rfl,fun h=>by cases h⟩;simp[bN,Builtin.copy_,Z8 hd,N.lenOf,Zv hie,qw,fB,goInt]
  .refine{pre:=A.H.pre,len:=A.H.len,fr:=A.H.fr,qN:=A.H.qN,own:=⟨fun j g hj=>?_,fun j k g g' m hj hk hne f f'=>?_⟩}
   .rw[Y0 i _ O j (by rw[hh];rfl)]at hj;split at hj
    .rename_i e;subst e;injection hj with hj;subst hj
     exact⟨Or.inl ⟨p1,by simp⟩,fun k f=>(wq.none (b:= .loc j) p1 f).elim⟩
    exact A.H.own.1 j g hj
   .have aux:∀(j:Nat) (g:Hp) (m:Nat),wq K w (.loc j) g m->wu j (qh i (.rows (M.C.T.size e) (List.take r []++ []++List.drop (r+0) [])) O)=some g->wu j O=some g:=by
     intro j g m f hj;rw[Y0 i _ O j (by rw[hh];rfl)]at hj;split at hj
     rename_i e;subst e;exact(wq.none (b:= .loc j) p1 f).elim;exact hj
    exact A.H.own.2 j k g g' m (aux j g m f hj) (aux k g' m f' hk) hne f f'
 .rcases wA with⟨p6,_⟩|⟨aB,arr,T,fz,p6,p7,p8,p9⟩
  rw[p1]at p6;cases p6;rw[p1]at p6;injection p6 with p6;injection p6 with p6;subst p6
  obtain⟨pg,pn,Ge,eS⟩:=p8 trivial;rw[eS]at p9;obtain⟨r1,r2⟩:=HL pn (r:=r) (xs:=xs) (by omega) (by omega) p9 N.den N.one;by_cases hm0:m=0
  .subst hm0;have hx0:xs=[]:=zJ.1 q1;have hn0:news=[]:=by apply zJ.1;rw[N.len];omega
   subst hx0 hn0;refine⟨_,w,K,fin ?_,zw,?_,rfl,fun h=>by cases h⟩;simp[bN,Builtin.copy_,Z8 hd,N.lenOf,Zv hie,qw,fB,goInt,storeCells]
   .refine A.H.fu hh p1 (fun k _=>rfl) rfl rfl rfl rfl ?_;simp only[uZ,Env.get];right
    exact⟨en,arr,T,fz,p1,p7,fun _=>⟨pg,pn,by simpa using Ge,eS⟩,by rw[eS];simpa using p9⟩
  .have ho:=p5 (.inl (by omega));rw[eS,zy]at ho;subst ho;have hst:=X2 (P:=M.P) en.g (r*M.C.T.size e) T fz news 0 arr w p7 (by simpa using r1) pg N.one;simp only[Nat.add_zero]at hst
   have fR:(arr.toList.take (r*M.C.T.size e)++news++arr.toList.drop (r*M.C.T.size e+news.length)).toArray.size=arr.size:=by
    simp only[yl,zg,zu,zF,Array.length_toList];omega
   refine⟨_,w.setRow en.g (arr.toList.take (r*M.C.T.size e)++news++arr.toList.drop (r*M.C.T.size e+news.length)).toArray,K,fin ?_,zw,A.H.fu hh p1 (fun k hk=>setRow_other w en.g k _ hk) (setRow_size _ _ _) rfl rfl rfl ?_,rfl,fun h=>by cases h⟩;simp[bN,Builtin.copy_,Z8 hd,N.lenOf,Zv hie,qw,hmin,fB,hst,goInt]
   .simp only[uZ,Env.get];right
    refine⟨en,_,T,fz,p1,setRow_heap w en.g arr _ T fz p7,fun _=>⟨by rw[fR];exact pg,by rw[fR];exact pn,?_,eS⟩,by rw[eS,<-q1];exact r2⟩;simp only[zg,zu,zF];omega
theorem Zjj(A:At M K w O nx ρ lk)(args:Array Operand)(ts:Array TypeId)(hr:(qH M.C lk O nx (.call ⟨.builtin .clear,args,ts⟩)).ok O nx v O' w8):Y9 M K w ⟨dst, .call ⟨.builtin .clear,args,ts⟩,ty,pos,af,gd⟩ ρ v O' w8:=by
 simp only[qH,VC,PR]at hr;split at hr
 case h_2=>exact hr.elim
 rename_i dd ha;obtain rfl:args= #[dd]:=by apply yC;simpa using ha
 split at hr
 case h_2=>exact hr.elim
 rename_i t htu;obtain rfl:ts= #[t]:=by apply yC;simpa using htu
 split at hr
 case h_2=>exact hr.elim
 rename_i e hst;obtain⟨d,hd,hm⟩:=A.T.jk t (by rw[hst];simp);rw[hst]at hm;simp only[jg]at hm;subst hm;split at hr
 exact hr.elim;rename_i c cs hz;have hsh:M.C.T.sh e≠ .other:=A.T.sY e (by rw[hz];simp);obtain⟨ie,z,h1,h2,h3,h4,h5,_⟩:=A.T.zero e hsh (by rw[hz];simp);rw[hz]at h3 h5;have h3:=w6.mono (η':=K) xD h3;have hzl:z.cells.toList.length=M.C.T.size e:=by have:=ZU h3;rw[h5]at this;exact this
 split at hr
 case h_2=>exact hr.elim
 rename_i i r es n lim mz;have bg:=A.L _ _ mz;split at hr
 case h_2=>exact hr.elim
 rename_i es' rs hh;split at hr
 case h_2=>exact hr.elim
 rename_i g1;have g1:=Zs g1;subst g1;split at hr
 case h_2=>exact hr.elim
 rename_i g2;have g2:=Zs g2;subst g2;obtain⟨q3,rfl,rfl,rfl⟩:=hr;obtain⟨wA,_⟩:=A.H.own.1 i _ hh;simp only[uZ,Env.get]at wA
 have fin:∀{w':World},(Builtin.clear_ #[t] ty #[ρ dd]).run M.P w= .ok (.tuple #[]) w'->sZ M.P ⟨dst, .call ⟨.builtin .clear, #[dd], #[t]⟩,ty,pos,af,gd⟩ ρ w (.tuple #[]) w':=by
  intro w' h;exact .inl (by simp[execOp,resolve,invoke,builtin,h])
 have eU:∀K,Den K (.wM []) (.tuple #[]):=fun K=>by simp only[Den,w6];exact⟨[],rfl,rfl⟩
 simp only[Den,Env.get]at bg;rcases bg with⟨p1,bN,p3⟩|⟨en,o,p1,bN,p3,p4,p5⟩
 .rcases wA with⟨p6,rfl⟩|⟨aB,arr,T,fz,p6,_⟩
  case inr=>rw[p1]at p6;cases p6
  subst p3;refine⟨_,w,K,fin ?_,zw,?_,eU _,fun h=>by cases h⟩;simp[bN,Builtin.clear_,Z8 hd]
  .refine{pre:=A.H.pre,len:=A.H.len,fr:=A.H.fr,qN:=A.H.qN,own:=⟨fun j g hj=>?_,fun j k g g' m hj hk hne f f'=>?_⟩}
   .rw[Y0 i _ O j (by rw[hh];rfl)]at hj;split at hj
    .rename_i e;subst e;injection hj with hj;subst hj
     exact⟨Or.inl ⟨p1,by simp⟩,fun k f=>(wq.none (b:= .loc j) p1 f).elim⟩
    exact A.H.own.1 j g hj
   .have aux:∀(j:Nat) (g:Hp) (m:Nat),wq K w (.loc j) g m->wu j (qh i (.rows (M.C.T.size e) (List.take r []++List.replicate 0 (c::cs)++List.drop (r+0) [])) O)=some g->wu j O=some g:=by
     intro j g m f hj;rw[Y0 i _ O j (by rw[hh];rfl)]at hj;split at hj
     rename_i e;subst e;exact(wq.none (b:= .loc j) p1 f).elim;exact hj
    exact A.H.own.2 j k g g' m (aux j g m f hj) (aux k g' m f' hk) hne f f'
 .rcases wA with⟨p6,_⟩|⟨aB,arr,T,fz,p6,p7,p8,p9⟩
  rw[p1]at p6;cases p6;rw[p1]at p6;injection p6 with p6;injection p6 with p6;subst p6
  obtain⟨pg,pn,Ge,eS⟩:=p8 trivial;rw[eS]at p9;have lX:=Ce h3 hzl n;have hone:=C1 h4 n;have hxl:(List.replicate n (c::cs)).length=n:=yN;obtain⟨r1,r2⟩:=HL pn (r:=r) (xs:=List.replicate n (c::cs)) (by omega) (by omega) p9 lX hone;by_cases hn0:n=0
  .subst hn0;refine⟨_,w,K,fin ?_,zw,?_,eU _,fun h=>by cases h⟩;simp[bN,Builtin.clear_,Z8 hd]
   .refine A.H.fu hh p1 (fun k _=>rfl) rfl rfl rfl rfl ?_;simp only[uZ,Env.get];right
    exact⟨en,arr,T,fz,p1,p7,fun _=>⟨pg,pn,by simpa using Ge,eS⟩,by rw[eS];simpa using p9⟩
  .have ho:=p5 (.inl (by omega));rw[eS,zy]at ho;subst ho;have hst:=X2 (P:=M.P) en.g (r*M.C.T.size e) T fz (XV z.cells.toList n) 0 arr w p7 (by simpa using r1) pg hone;simp only[Nat.add_zero]at hst
   have Ch:(Builtin.zeroCells z.cells n).toList=XV z.cells.toList n:=by
    unfold Builtin.zeroCells;exact Uq z.cells n _ (by simp[vA])
   have fR:(arr.toList.take (r*M.C.T.size e)++XV z.cells.toList n++arr.toList.drop (r*M.C.T.size e+(XV z.cells.toList n).length)).toArray.size=arr.size:=by
    simp only[yl,zg,zu,zF,Array.length_toList];omega
   refine⟨_,w.setRow en.g (arr.toList.take (r*M.C.T.size e)++XV z.cells.toList n++arr.toList.drop (r*M.C.T.size e+(XV z.cells.toList n).length)).toArray,K,fin ?_,zw,A.H.fu hh p1 (fun k hk=>setRow_other w en.g k _ hk) (setRow_size _ _ _) rfl rfl rfl ?_,eU _,fun h=>by cases h⟩
   .obtain⟨n,rfl⟩:∃m,n=m+1:=⟨n-1,by omega⟩;simp[bN,Builtin.clear_,Z8 hd,Jo h1 h2,Ch,hst]
   .simp only[uZ,Env.get];right
    refine⟨en,_,T,fz,p1,setRow_heap w en.g arr _ T fz p7,fun _=>⟨by rw[fR];exact pg,by rw[fR];exact pn,?_,eS⟩,by rw[eS];rw[hxl]at r2;exact r2⟩;simp only[zg,zu,zF,yN];omega
theorem Cq(A:At M K w O nx ρ lk)(o:Oper)(hr:(qH M.C lk O nx o.op).ok O nx v O' w8):Y9 M K w o ρ v O' w8:=by
 obtain⟨dst,op,ty,pos,af,gd⟩:=o;cases op with
 |move x=>exact ZkZ A x hr
 |assign x=>exact ZgO A x hr
 |pick c a b=>exact Zl0 A c a b hr
 |alloc e=>exact Zje A e hr
 |box e x=>exact Zme A e x hr
 |build t ps=>exact Zjf A t ps hr
 |buildSlice t l ps=>exact Z89 A t l ps hr
 |load t x=>exact Zl2 A t x hr
 |store t x y=>exact Zjh A t x y hr
 |nilCheck x=>exact ZcF A x hr
 |binOp op t x y u=>exact Zjb A op t u x y hr
 |unOp op t x=>exact Zl1 A op t x hr
 |convert s d x=>exact Zer A s d x hr
 |makeInterface t x=>exact Z3M A t x hr
 |makeFunc f a b=>exact ZcG A f a b hr
 |makeSlice t l c=>exact Za0 A t l c hr
 |slice t x lo hi mx=>exact Zjc A t x lo hi mx hr
 |fieldAddr s x f=>exact Z9X A s x f hr
 |field t x f=>exact Zj9 A t x f hr
 |indexAddr t x i=>exact Z9W A t x i hr
 |index t x i=>exact Zja A t x i hr
 |makeMap t r=>exact Zem A t r hr
 |lookup t x i ok=>exact ZgV A t x i ok hr
 |mapUpdate t m k x=>exact M3 A t m k x hr
 |insert t m k x=>exact ZgW A t m k x hr
 |mapEntry t m k=>exact ZcK A t m k hr
 |entryStore t m k x=>exact Z8f A t m k x hr
 |range t x=>exact Zji A t x hr
 |next x b=>exact Zl3 A x b hr
 |extract x i=>exact Zee A x i hr
 |typeAssert x t u ok=>exact ZgP A x t u ok hr
 |call c=>
  obtain⟨callee,args,ts⟩:=c;cases callee with
  |builtin b=>
   cases b with
   |len=>exact Zmc A args ts hr
   |append=>exact ZgU A args ts hr
   |cap=>exact Zmd A args ts hr
   |min=>exact Zmf A args ts hr
   |max=>exact Zmg A args ts hr
   |copy=>exact Zl4 A args ts hr
   |clear=>exact Zjj A args ts hr
   |_=>exact hr.elim
  |_=>exact hr.elim
 |_=>exact hr.elim
end
section
variable {M:Mx}{J:Env}{w:World}{O:w9}{nx:Nat}
theorem gI.mono{J η':Env}{a:Act}{fr:Fr}(h:J<+:η')(k:gI J a fr):gI η' a fr:=fun t sv ht=>(k t sv ht).mono h
theorem M8{a:Act}{d:Nat}{u:Value}(h:d<a.tmps.size):(a.put (some d) u).tmps.getD d undef=u:=by
 simp[Act.put,Array.getD,h]
theorem Cr{a:Act}{d t:Nat}{u:Value}(h:t≠d):(a.put (some d) u).tmps.getD t undef=a.tmps.getD t undef:=by
 simp only[Act.put,y6];rw[yW,z7 (yX h)]
theorem Cs{a:Act}{d:Option Tmp}{u:Value}:(a.put d u).tmps.size=a.tmps.size:=by
 cases d<;>simp[Act.put]
theorem put_defers{a:Act}{d:Option Tmp}{u:Value}:(a.put d u).defers=a.defers:=by
 cases d<;>simp[Act.put]
theorem gI.put{a:Act}{fr:Fr}{d:Nat}{u:Value}{v:SV}(k:gI J a fr)(hd:d<a.tmps.size)(hv:Den J v u):gI J (a.put (some d) u) ((d,v)::fr):=by
 intro t sv ht;rw[Za]at ht;split at ht
 .rename_i e;subst e;injection ht with ht;subst ht
  rw[M8 hd];exact hv
 rename_i e;rw[Cr e];exact k t sv ht
theorem gI.know{a:Act}{fr:Fr}{d:Nat}{v:SV}(k:gI J a fr)(hv:Den J v (a.tmps.getD d undef)):gI J a ((d,v)::fr):=by
 intro t sv ht;rw[Za]at ht;split at ht
 rename_i e;subst e;injection ht with ht;subst ht;exact hv
 exact k t sv ht
theorem Ct{N:Nat}{d:Nat}(h:JN N (some d)=true):d<N:=by
 simpa[JN]using h
def Cu:SV->Bool
 | .eE _=>false
 |_=>true
theorem jf.other{J:Env}{ds:List Deferred}{v:SV}(h:Cu v=true):jf J ds (some v)<->ds=[]:=by
 cases v<;>first|exact xK|cases h
theorem wz.know{fr:Fr}{a:Act}(K:wz M J fr O nx a w){s:Nat}{u v:SV}(hs:wu s fr=some u)(hu:Cu u=true)(hv:Cu v=true)(hd:Den J v (a.tmps.getD s undef)):wz M J ((s,v)::fr) O nx a w:=by
 refine⟨K.heap,K.size,K.cN,?_,K.ro,K.frame.know hd⟩;have h:=K.defers;rw[Za];split
 .rename_i e;rw[e,hs,jf.other hu]at h;rw[jf.other hv];exact h
 exact h
theorem M9{N d:Nat}{v:SV}{fr:Fr}(hd:JN N (some d)=true)(hN:N<=DS):wu DS ((d,v)::fr)=wu DS fr:=by
 have h1:=Ct hd;have h2:DS≠d:=fun e=>uS _ (yL (e▸h1) hN);rw[Za,z7 h2]
theorem Us{J η':Env}(hp:J<+:η')(h:∀l j,M.C.ro=some (l,j)->∃e,J[j]?=some (some e)/\e.g=l):∀l j,M.C.ro=some (l,j)->∃e,η'[j]?=some (some e)/\e.g=l:=fun l j hj=>
 let⟨e,h1,h2⟩:=h l j hj;⟨e,Env.wE (b:= .loc j) hp h1,h2⟩
theorem wz.put{fr:Fr}{a:Act}(K:wz M J fr O nx a w){η':Env}{O':w9}{w8:Nat}{w':World}{d:Option Tmp}{u:Value}{v:SV}(hd:JN M.C.N d=true)(hp:J<+:η')(hH:uY M η' w' O' w8)(hv:Den η' v u){Kp:Fr->Prop}(hk:qQ d v fr Kp):
 ∃fr',Kp fr'/\wz M η' fr' O' w8 (a.put d u) w':=by
 cases d with
 |none=>exact⟨fr,hk,hH,by rw[Cs];exact K.size,K.cN,by rw[put_defers];exact K.defers.mono hp,Us hp K.ro,K.frame.mono hp⟩
 |some d=>
  refine⟨(d,v)::fr,hk,hH,by rw[Cs];exact K.size,K.cN,by rw[put_defers,M9 hd K.cN];exact K.defers.mono hp,Us hp K.ro,(K.frame.mono hp).put ?_ hv⟩;rw[K.size];exact Ct hd
theorem Z31{P:Program}{o:Oper}{ρ:Operand->Value}{w w':World}{u:Value}(h:sZ P o ρ w u w'):∀c,o.op≠ .defer c:=by
 intro c hc
 have key:∀(n:Next) (w':World),(∀d,n≠ .defer d)->(execOp ρ o).run P w≠ .ok n w':=by
  intro n w' hn he;simp only[execOp,hc,Sem.run_bind]at he;cases hr:(resolve ρ c o.type).run P w with
  |ok d w1=>
   rw[hr]at he;simp only[Result.andThen,Sem.run_pure]at he;injection he with he _;exact hn d he.symm
  |halt x w1=>rw[hr]at he;simp only[Result.andThen]at he;cases he
 rcases h with h|⟨h,_⟩
 exact key _ _ (fun d e=>by cases e) h;exact key _ _ (fun d e=>by cases e) h
theorem Cv{ro:Option Nat}{ρ:Operand->Value}{o:Oper}{c:Call}(h:o.op= .call c):o.semAt ro ρ=execOp ρ o:=Oper.semAt_eq _ _ _ fun c' hc=>by rw[h]at hc;cases hc
theorem Cw{P:Program}{o:Oper}{a:Act}{w w':World}{u:Value}{next:Act->World->Prop}{Q:Exit->Act->World->Prop}{F:Fence}(hF:∀f,F.fn f)(h:sZ P o a.eval w u w')(hn:next (a.put o.dst u) w'):o.wpIn F 0 P a w next Q:=by
 refine⟨fun f _=>hF f,?_⟩;rw[Oper.semAt_eq _ _ _ (Z31 h)];rcases h with h|⟨h,rfl⟩
 rw[h];exact hn;rw[h];exact hn
theorem Cy{lk:Operand->Option SV}{ρ:Operand->Value}{xs:List Operand}{cV:List SV}(hl:∀x sv,lk x=some sv->Den J sv (ρ x))(h:kX lk xs=some cV):w6 J cV (xs.map ρ):=DQ hl h
theorem Ma{o:Oper}{a:Act}{c:Call}{lk:Operand->Option SV}{f:FuncId}{args:List SV}{K:SV->w9->Nat->Prop}{next:Act->World->Prop}{Q:Exit->Act->World->Prop}(ho:o.op= .call c)(H:uY M J w O nx)(hl:∀x sv,lk x=some sv->Den J sv (a.eval x))
 (hc:Up lk c=some (f,args)) (hC:CALL M f args O nx K) (hn:∀v r O' w8 η' w',J<+:η'->uY M η' w' O' w8->Den η' r v->K r O' w8->next (a.put o.dst v) w'):o.wpIn M.wS 0 M.P a w next Q:=by
 unfold Up at hc;split at hc
 case h_2=>cases hc
 rename_i ff oG;split at hc
 case h_2=>cases hc
 rename_i f' first cap args' hf hargs;simp only[zj,yF]at hc;obtain⟨rfl,rfl⟩:=hc;have mH:=hl _ _ hf;simp only[Den]at mH;obtain⟨us,vs,iP,h1,h2⟩:=mH;have hall:=YV (YV h1 (Cy hl hargs)) h2
 have eH:(execOp a.eval o).run M.P w=(callFunc f' ⟨us++c.args.toList.map a.eval++vs⟩).run M.P w:=by
  have:(⟨us⟩++c.args.map a.eval++⟨vs⟩:Array Value)=⟨us++c.args.toList.map a.eval++vs⟩:=by apply yC;simp
  rw[<-this];simp[execOp,ho,resolve,oG,iP,Deferred.ofValue,invoke]
 refine⟨fun f _=>M.all f,?_⟩;rw[Cv ho,eH];rcases hC.out J w _ H hall with⟨g,hg,fT⟩|⟨v,w',hv,r,O',w8,η',h3,h4,h5,h6⟩
 .rw[hg];refine⟨(fun h=>by cases h),?_⟩;have fT:CallsIn M.wS (0-1) M.P g _ w _:=callsIn_wide.2 fT;refine fT.mono fun e w' he=>?_;obtain⟨v,rfl,r,O',w8,η',h3,h4,h5,h6⟩:=he;exact hn v r O' w8 η' w' h3 h4 h5 h6
 .rw[hv];exact hn v r O' w8 η' w' h3 h4 h5 h6
theorem ZgX{o:Oper}{a:Act}{c:Call}{lk:Operand->Option SV}{j:Nat}{args:List SV}{K:SV->w9->Nat->Prop}{next:Act->World->Prop}{Q:Exit->Act->World->Prop}(ho:o.op= .call c)(H:uY M J w O nx)(hl:∀x sv,lk x=some sv->Den J sv (a.eval x))
 (hc:DB lk c=some (j,args)) (hC:bf M j args O nx K) (hn:∀v r O' w8 η' w',J<+:η'->uY M η' w' O' w8->Den η' r v->K r O' w8->next (a.put o.dst v) w'):o.wpIn M.wS 0 M.P a w next Q:=by
 unfold DB at hc;split at hc
 case h_2=>cases hc
 rename_i ff oG;split at hc
 case h_2=>cases hc
 rename_i j' args' hf hargs;simp only[zj,yF]at hc;obtain⟨rfl,rfl⟩:=hc;have mH:=hl _ _ hf;simp only[Den]at mH;obtain⟨e,he,iP⟩:=mH;have hall:=Cy hl hargs;obtain⟨fn,tmps,cM,body,hy,hr⟩:=hC.out J w _ e H hall he
 have eH:(execOp a.eval o).run M.P w=(Instr.yield e.g ⟨c.args.toList.map a.eval⟩).run M.P w:=by
  have:(#[]++c.args.map a.eval:Array Value)=⟨c.args.toList.map a.eval⟩:=by apply yC;simp
  rw[<-this];simp[execOp,ho,resolve,oG,iP,Deferred.ofValue,invoke]
 refine⟨fun f _=>M.all f,?_⟩;rw[Cv ho,eH,hy];refine⟨(fun h=>by cases h),?_⟩;have hr:RoundIn M.wS (0-1) M.P e.g fn tmps cM body w _:=hr;refine hr.mono fun en w' he=>?_;obtain⟨v,rfl,r,O',w8,η',h3,h4,h5,h6⟩:=he;exact hn v r O' w8 η' w' h3 h4 h5 h6
theorem VG(hT:qa M.P M.C.T){fr:Fr}{a:Act}(K:wz M J fr O nx a w){o:Oper}{lk:Operand->Option SV}(hl:∀x sv,lk x=some sv->Den J sv (a.eval x)){K':SV->w9->Nat->Prop}(h:mc M o lk O nx K'){next:Act->World->Prop}{Q:Exit->Act->World->Prop}
 (hn:∀u v O' w8 η' w',JN M.C.N o.dst=true->J<+:η'->uY M η' w' O' w8->Den η' v u->K' v O' w8->next (a.put o.dst u) w'):o.wpIn M.wS 0 M.P a w next Q:=by
 unfold mc at h;split at h
 exact h.out.elim;rename_i hd
 have main:∀{op:Op},o.op=op->(qH M.C lk O nx op).go O nx K'->o.wpIn M.wS 0 M.P a w next Q:=by
  intro op ho h;subst ho;obtain⟨v,O',w8,h1,h2⟩:=wW.go_ok h;obtain⟨u,w',η',h3,h4,h5,h6,_⟩:=Cq ⟨K.heap,hT,hl⟩ o h1;exact Cw M.all h3 (hn u v O' w8 η' w' hd h4 h5 h6 h2)
 split at h
 .rename_i c ho;split at h
  exact main ho h
  .split at h
   .rename_i f args hc;rw[Jc]at h;refine Ma ho K.heap hl hc h fun v r O' w8 η' w' h1 h2 h3 h4=>?_;rw[Yz,U8]at h4;exact hn v r O' w8 η' w' hd h1 h2 h3 h4
   .split at h
    .rename_i j args hc;rw[Jc]at h;refine ZgX ho K.heap hl hc h fun v r O' w8 η' w' h1 h2 h3 h4=>?_;rw[Yz,U8]at h4;exact hn v r O' w8 η' w' hd h1 h2 h3 h4
    exact h.out.elim
 exact main rfl h
theorem Mb:∀{kp fr:Fr},Dz kp fr->∀{t:Nat} {v:SV},wu t kp=some v->wu t fr=some v
 | [],fr,_,t,v,h=>by simp[wu]at h
 |(d,u)::r,fr,hk,t,v,h=>by
  rw[Za]at h;split at h
  rename_i e;subst e;injection h with h;subst h;exact hk.1
  exact Mb hk.2 h
theorem wz.kept{kp fr:Fr}{a:Act}(hm:wz M J fr O nx a w)(hk:DA kp fr){η':Env}{w':World}{O':w9}{w8:Nat}(hp:J<+:η')(H:uY M η' w' O' w8):wz M η' kp O' w8 a w':=
 ⟨H,hm.size,hm.cN,by rw[<-hk.1];exact hm.defers.mono hp,Us hp hm.ro,fun t v ht=>(hm.frame t v (Mb hk.2 ht)).mono hp⟩
theorem ZgY{o:Oper}{a:Act}{c:Call}{lk:Operand->Option SV}{f:FuncId}{args:List SV}{KP K:SV->w9->Nat->Prop}{next:Act->World->Prop}{Q:Exit->Act->World->Prop}(ho:o.op= .call c)(H:uY M J w O nx)(hl:∀x sv,lk x=some sv->Den J sv (a.eval x))
 (hc:Up lk c=some (f,args)) (hC:fK M f args O nx KP K) (hn:∀v r O' w8 η' w',J<+:η'->uY M η' w' O' w8->Den η' r v->K r O' w8->next (a.put o.dst v) w')
 (hp:∀v r O' w8 η' w',J<+:η'->uY M η' w' O' w8->Den η' r v->KP r O' w8->Q (.panic [{v,recovered:=false}]) a w'):o.wpIn M.wS 0 M.P a w next Q:=by
 unfold Up at hc;split at hc
 case h_2=>cases hc
 rename_i ff oG;split at hc
 case h_2=>cases hc
 rename_i f' first cap args' hf hargs;simp only[zj,yF]at hc;obtain⟨rfl,rfl⟩:=hc;have mH:=hl _ _ hf;simp only[Den]at mH;obtain⟨us,vs,iP,h1,h2⟩:=mH;have hall:=YV (YV h1 (Cy hl hargs)) h2
 have eH:(execOp a.eval o).run M.P w=(callFunc f' ⟨us++c.args.toList.map a.eval++vs⟩).run M.P w:=by
  have:(⟨us⟩++c.args.map a.eval++⟨vs⟩:Array Value)=⟨us++c.args.toList.map a.eval++vs⟩:=by apply yC;simp
  rw[<-this];simp[execOp,ho,resolve,oG,iP,Deferred.ofValue,invoke]
 refine⟨fun f _=>M.all f,?_⟩;rw[Cv ho,eH];rcases hC.out J w _ H hall with⟨g,hg,fT⟩|⟨v,w',hv,r,O',w8,η',h3,h4,h5,h6⟩
 .rw[hg];refine⟨(fun h=>by cases h),?_⟩;have fT:CallsIn M.wS (0-1) M.P g _ w _:=callsIn_wide.2 fT;refine fT.mono fun e w' he=>?_;rcases he with⟨v,rfl,r,O',w8,η',h3,h4,h5,h6⟩|⟨v,rfl,r,O',w8,η',h3,h4,h5,h6⟩
  exact hn v r O' w8 η' w' h3 h4 h5 h6;exact hp v r O' w8 η' w' h3 h4 h5 h6
 .rw[hv];exact hn v r O' w8 η' w' h3 h4 h5 h6
theorem ZgZ(hT:qa M.P M.C.T){fr:Fr}{a:Act}(hm:wz M J fr O nx a w){o:Oper}{K':Fr->SV->w9->Nat->Prop}(h:sX M o fr O nx K'){next:Act->World->Prop}{Q:Exit->Act->World->Prop}
 (hn:∀fr' u v O' w8 η' a' w',JN M.C.N o.dst=true->wz M η' fr' O' w8 a' w'->Den η' v u->K' fr' v O' w8->next (a'.put o.dst u) w') (hp:∀ch w',Hu M ch a w'->Q (.panic ch) a w'):o.wpIn M.wS 0 M.P a w next Q:=by
 have hl:∀x sv,V2 fr x=some sv->Den J sv (a.eval x):=fun x sv hx=>YA hm.frame hx
 have hn0:∀u v O' w8 η' w',JN M.C.N o.dst=true->J<+:η'->uY M η' w' O' w8->Den η' v u->K' fr v O' w8->next (a.put o.dst u) w':=fun u v O' w8 η' w' hd h1 h2 h3 h4=>
  hn fr u v O' w8 η' a w' hd ⟨h2,hm.size,hm.cN,hm.defers.mono h1,Us h1 hm.ro,hm.frame.mono h1⟩ h3 h4
 unfold sX at h;split at h
 exact VG hT hm hl h hn0;rename_i kp X hpx;split at h
 exact h.out.elim;rename_i hd;split at h
 .rename_i x ho;split at h
  case h_2=>exact h.out.elim
  rename_i t u hx;rw[Yz]at h;have eU:=hl _ _ hx;have Gj:=eU;simp only[Den]at eU;obtain⟨y,hv,hy⟩:=eU;refine⟨fun f _=>M.all f,?_⟩;rw[Oper.semAt_eq _ _ _ (fun c' hc=>by rw[ho]at hc;cases hc)]
  have eH:(execOp a.eval o).run M.P w= .halt (.panic (a.eval x)) w:=by
   rw[hv];simp[execOp,ho,hv,Instr.panic]
  rw[eH];exact hp _ _ ⟨kp,X,hpx,J,O,nx,_,_,rfl,hm.kept h.1 zw hm.heap,Gj,h.2⟩
 .rename_i c ho;unfold N6 at h;split at h
  exact h.out.elim;rename_i hro;split at h
  case h_2=>exact h.out.elim
  rename_i f oG hargs;split at h
  case h_2=>exact h.out.elim
  rename_i g cap hf;split at h
  case h_2=>exact h.out.elim
  rename_i hds;have mH:=hl _ _ hf;simp only[Den]at mH;obtain⟨us,vs,iP,h1,h2⟩:=mH;simp only[w6]at h1;subst h1;have iQ:c.args= #[]:=by apply yC;simpa using hargs
  have hr:M.wS.round=none:=by simp[Mx.wS,hro]
  refine⟨fun f _=>M.all f,?_⟩;rw[hr,Oper.semAt_none]
  have eH:(execOp a.eval o).run M.P w= .ok (.defer {target:= .fn (.func g) ⟨vs⟩,args:= #[]}) w:=by
   simp[execOp,ho,resolve,oG,iQ,iP,Deferred.ofValue]
  rw[eH];refine hn _ undef YS O nx J {a with defers:={target:= .fn (.func g) ⟨vs⟩,args:= #[]}::a.defers} w hd ⟨hm.heap,hm.size,hm.cN,?_,hm.ro,fun t v ht=>?_⟩ (V7 J) h
  .rw[Za,zh rfl];have hde:a.defers=[]:=by have:=hm.defers;rw[hds]at this;exact this
   show fe J _ _
   simp only[fe];exact⟨[],vs,[],rfl,h2,by rw[hde],rfl⟩
  .rw[Za]at ht;split at ht
   .rename_i e;injection ht with ht;subst ht;simp only[Den]
   exact hm.frame t v ht
 .rename_i c ho;split at h
  exact VG hT hm hl h hn0
  .split at h
   .rename_i f args hc;rw[Jc]at h;refine ZgY ho hm.heap hl hc h (fun v r O' w8 η' w' h1 h2 h3 h4=>?_) fun v r O' w8 η' w' h1 h2 h3 h4=>?_
    .rw[Yz,U8]at h4;exact hn0 v r O' w8 η' w' hd h1 h2 h3 h4
    exact hp _ _ ⟨kp,X,hpx,η',O',w8,v,r,rfl,hm.kept h4.1 h1 h2,h3,h4.2⟩
   exact VG hT hm hl h hn0
 exact VG hT hm hl h hn0
theorem Uc{ops:Array Oper}{a:Act}{j s:Nat}(h:W2 ops.toList j=some s){b:Bool}(hb:a.tmps.getD s undef= .bool b):yielded ops a.tmps j=some b:=by
 unfold W2 at h;rw[VV]at h;unfold yielded;cases ho:ops.toList[j]? with
 |none=>rw[ho]at h;cases h
 |some o=>
  rw[ho]at h;simp only at h;have ho':ops[j]?=some o:=by simpa using ho
  have hs:s<a.tmps.size:=by
   rcases y9 s a.tmps.size with hlt|hge
   exact hlt;rw[y6,xP hge]at hb;cases hb
  rw[y6,yP hs]at hb;simp only[Option.getD_some]at hb;simp[ho',h,yP hs,hb]
theorem Ut{ops:Array Oper}{a:Act}{j s:Nat}(h:W2 ops.toList j=some s){want:Bool}(hb:a.tmps.getD s undef≠ .bool want):yielded ops a.tmps j≠some want:=by
 unfold W2 at h;rw[VV]at h;unfold yielded;cases ho:ops.toList[j]? with
 |none=>rw[ho]at h;cases h
 |some o=>
  rw[ho]at h;simp only at h;have ho':ops[j]?=some o:=by simpa using ho
  simp only[ho',Option.bind_some,h];intro hy;split at hy
  .rename_i b hq;injection hy with hy;subst hy;apply hb;rw[y6,hq];rfl
  cases hy
theorem XB{P:Program}{ops:Array Oper}{Q:Exit->Act->World->Prop}{a:Act}{w:World}{rest:List Oper}{o:Oper}(hw:Region.wanted o (yielded ops a.tmps)=true){F:Fence}(h:o.wpIn F 0 P a w (wpListIn F 0 P ops Q rest) Q):wpListIn F 0 P ops Q (o::rest) a w:=by
 unfold wpListIn;rw[zh hw];exact h
theorem XK{P:Program}{ops:Array Oper}{Q:Exit->Act->World->Prop}{a:Act}{w:World}{rest:List Oper}{o:Oper}(hw:¬Region.wanted o (yielded ops a.tmps)=true){F:Fence}(hF:∀f,F.fn f)(h:wpListIn F 0 P ops Q rest (a.put o.dst undef) w):wpListIn F 0 P ops Q (o::rest) a w:=by
 unfold wpListIn;rw[z7 hw];exact⟨fun f _=>hF f,h⟩
theorem Uu{o:Oper}{y:Nat->Option Bool}(h:o.guard=none):Region.wanted o y=true:=by simp[Region.wanted,h]
theorem Zz{o:Oper}{y:Nat->Option Bool}{j:Nat}{b:Bool}(h:o.guard=some (j,b)):Region.wanted o y=true<->y j=some b:=by simp[Region.wanted,h]
theorem Cz(hT:qa M.P M.C.T){ops:Array Oper}{Q:Exit->Act->World->Prop}:∀(rest:List Oper) {fr:Fr} {O:w9} {nx:Nat} {K:Fr->w9->Nat->Prop},pV M ops.toList rest fr O nx K->
 ∀{J:Env} {a:Act} {w:World},wz M J fr O nx a w->(∀J fr O nx a w,wz M J fr O nx a w->K fr O nx->Q .normal a w)->(∀ch a w,Hu M ch a w->Q (.panic ch) a w)->wpListIn M.wS 0 M.P ops Q rest a w
 | [],fr,O,nx,K,h,J,a,w,hm,hq,hp=>hq J fr O nx a w hm h
 |o::rest,fr,O,nx,K,h,J,a,w,hm,hq,hpa=>by
  replace h:DE M ops.toList o rest (pV M ops.toList rest) fr O nx K:=h
  unfold DE at h
  have step:∀{fr':Fr},wz M J fr' O nx a w->sX M o fr' O nx (fun fr v O nx=>qQ o.dst v fr fun fr=>pV M ops.toList rest fr O nx K)->o.wpIn M.wS 0 M.P a w (wpListIn M.wS 0 M.P ops Q rest) Q:=by
   intro fr' hm' h;refine ZgZ hT hm' h (fun cw u v O' w8 η' a' w' hd hM hv hk=>?_) fun ch w' hr=>hpa ch a w' hr;obtain⟨cw,h1,h2⟩:=hM.put hd zw hM.heap hv hk;exact Cz hT rest h1 h2 hq hpa
  have skip:∀{fr':Fr},wz M J fr' O nx a w->(match JN M.C.N o.dst with|true=>qQ o.dst YS fr' fun fr=>pV M ops.toList rest fr O nx K|false=>qc "slot")->wpListIn M.wS 0 M.P ops Q rest (a.put o.dst undef) w:=by
   intro fr' hm' h;split at h
   .rename_i hd;obtain⟨cw,h1,h2⟩:=hm'.put hd zw hm'.heap (V7 J) h;exact Cz hT rest h1 h2 hq hpa
   exact h.out.elim
  split at h
  .rename_i hg;exact XB (Uu hg) (step hm h)
  .rename_i j want hg;split at h
   exact h.out.elim;rename_i s hs;split at h
   .rename_i b hb;have kS:=X3 (hm.frame s _ hb);have hy:=Uc hs kS;cases b with
    |true=>
     have h:=h.t rfl;have hm':wz M J ((s, .bool true)::fr) O nx a w:=hm.know hb rfl rfl kS;cases want with
     |true=>exact XB ((Zz hg).2 hy) (step hm' h)
     |false=>exact XK (hF:=M.all) (fun hw=>by rw[Zz hg,hy]at hw;cases hw) (skip hm' h)
    |false=>
     have h:=h.f rfl;have hm':wz M J ((s, .bool false)::fr) O nx a w:=hm.know hb rfl rfl kS;cases want with
     |false=>exact XB ((Zz hg).2 hy) (step hm' h)
     |true=>exact XK (hF:=M.all) (fun hw=>by rw[Zz hg,hy]at hw;cases hw) (skip hm' h)
   .rename_i hb;have kS:=hm.frame s _ hb;simp only[Den,w6]at kS;obtain⟨vs,kS,rfl⟩:=kS;exact XK (hF:=M.all) (fun hw=>by rw[Zz hg]at hw;exact Ut hs (by rw[kS];simp) hw) (skip hm h)
   .rename_i n hb;have kS:=hm.frame s _ hb;simp only[Den]at kS;obtain⟨b,kS,hn0⟩:=kS;have hy:=Uc hs kS;cases b with
    |true=>
     have h:=h.t (hn0 rfl);have hm':wz M J ((s, .bool true)::fr) O nx a w:=hm.know hb rfl rfl kS;cases want with
     |true=>exact XB ((Zz hg).2 hy) (step hm' h)
     |false=>exact XK (hF:=M.all) (fun hw=>by rw[Zz hg,hy]at hw;cases hw) (skip hm' h)
    |false=>
     have h:=h.f;have hm':wz M J ((s, .bool false)::fr) O nx a w:=hm.know hb rfl rfl kS;cases want with
     |false=>exact XB ((Zz hg).2 hy) (step hm' h)
     |true=>exact XK (hF:=M.all) (fun hw=>by rw[Zz hg,hy]at hw;cases hw) (skip hm' h)
   exact h.out.elim
end
section
variable {M:Mx}{J:Env}{w:World}{O:w9}{nx:Nat}
theorem qA.sub{a:Act}:∀{p q:List (Nat×Bool)},Hv p q=true->qA a q->qA a p
 | [],q,_,_=>fun x hx=>by cases hx
 |(s,b)::p,q,h,hq=>by
  simp only[Hv,zk,xL]at h;obtain⟨⟨x,hx,h1⟩,h2⟩:=h;have h3:=Zs h1.1;have h4:x.2=b:=by simpa using h1.2
  intro y hy;rcases zK.1 hy with rfl|hy
  have:=hq x hx;rw[h3,h4]at this;exact this;exact qA.sub h2 hq y hy
theorem W8{a:Act}{fr:Fr}{gs:Gs}{path:List (Nat×Bool)}(hf:gI J a fr)(hg:ay J a gs)(hp:qA a path){x:Operand}{sv:SV}(hx:rJ fr gs path x=some sv):Den J sv (a.eval x):=by
 cases x with
 |tmp t=>
  simp only[rJ]at hx;split at hx
  .rename_i q v hq;split at hx
   .rename_i hs;injection hx with hx;subst hx;exact(hg t q v hq).1 (qA.sub hs hp)
   cases hx
  exact hf t sv hx
 |const v=>exact YA hf hx
 |global g=>exact YA hf hx
 |func f=>exact YA hf hx
theorem Md{a:Act}{fr:Fr}{gs:Gs}(hf:gI J a fr)(hg:ay J a gs):∀{path:List (Nat×Bool)} {g:Bool},G1 fr gs path=some g->qA a path->g=true
 | [],g,h,_=>by simp only[G1,zj]at h;exact h.symm
 |(s,want)::r,g,h,hp=>by
  have o9:qA a r:=fun x hx=>hp x (zV _ hx);simp only[G1]at h;split at h
  case h_2=>cases h
  rename_i b hb;have kS:=X3 (W8 hf hg o9 hb);have jU:=hp (s,want) (y5 ..);simp only[Act.eval]at kS;rw[kS]at jU;injection jU with jU;simp only at jU;split at h
  case h_2=>cases h
  rename_i x hx;have hxt:=Md hf hg hx o9;subst hxt jU;cases b<;>simp at h<;>exact h
theorem Zh0{a:Act}{gs:Gs}(hg:ay J a gs){s:Nat}{want:Bool}(h:a.tmps.getD s undef= .bool want):qA a (rL gs s want):=by
 intro x hx;unfold rL at hx;rcases zK.1 hx with rfl|hx
 exact h
 .split at hx
  .rename_i q v hq;by_cases hp:qA a q
   exact hp x hx
   .have:=(hg s q v hq).2 hp;rw[h]at this;cases this
  cases hx
theorem qA.put{a:Act}{d:Nat}{u:Value}{p:List (Nat×Bool)}(h:G2 d p=true):qA (a.put (some d) u) p<->qA a p:=by
 unfold G2 at h
 have key:∀x∈p,(a.put (some d) u).tmps.getD x.1 undef=a.tmps.getD x.1 undef:=by
  intro x hx;have:=(zR.1 h) x hx;have hne:x.1≠d:=JA (by simpa using this);exact Cr hne
 exact⟨fun k x hx=>by rw[<-key x hx];exact k x hx,fun k x hx=>by rw[key x hx];exact k x hx⟩
theorem W9{Z:Type}:∀{l:List (Nat×Z)} {t:Nat} {v:Z},wu t l=some v->(t,v)∈l
 | [],t,v,h=>by simp[wu]at h
 |(d,u)::r,t,v,h=>by
  rw[Za]at h;split at h
  rename_i e;subst e;injection h with h;subst h;exact y5 ..
  exact zV _ (W9 h)
theorem ay.put{a:Act}{gs:Gs}(hg:ay J a gs){η':Env}(hp:J<+:η'){d:Option Tmp}{u:Value}(hd:Nb d gs=true):ay η' (a.put d u) gs:=by
 cases d with
 |none=>exact fun t p sv h=>⟨fun k=>((hg t p sv h).1 k).mono hp,(hg t p sv h).2⟩
 |some d=>
  intro t p sv h;have hm:=W9 h;have:=(zR.1 hd) _ hm;simp only[zk]at this;have hne:t≠d:=JA (by simpa using this.1);have hn:G2 d p=true:=this.2;rw[qA.put hn,Cr hne];exact⟨fun k=>((hg t p sv h).1 k).mono hp,(hg t p sv h).2⟩
theorem wW.mI{g:Prop}:∀{r:wW} {K:SV->Prop},r.gg g K->∃v,(g->∀O nx,r.ok O nx v O nx)/\K v
 | .val v,K,h=>by simp only[wW.gg,Hw,Yz]at h;exact⟨v,fun _ _ _=>⟨rfl,rfl,rfl⟩,h⟩
 | .need p k,K,h=>by
   simp only[wW.gg,N8]at h;obtain⟨v,h1,h2⟩:=wW.mI h.k;exact⟨v,fun hg O nx=>⟨h.p hg,h1 hg O nx⟩,h2⟩
 | .get rs i f,K,h=>by
   simp only[wW.gg,N9,JX]at h;obtain⟨row,hr,h⟩:=h.out;obtain⟨v,h1,h2⟩:=wW.mI h;exact⟨v,fun hg O nx=>⟨row,hr hg,h1 hg O nx⟩,h2⟩
 | .new _ _,_,h=>h.out.elim
 | .fu _ _ _,_,h=>h.out.elim
 | .dG _ _ _,_,h=>h.out.elim
 | .ite _ _ _,_,h=>h.out.elim
 | .fail,_,h=>h.out.elim
theorem Me(hT:qa M.P M.C.T){a:Act}{fr:Fr}{gs:Gs}{path:List (Nat×Bool)}(H:uY M J w O nx)(hf:gI J a fr)(hg:ay J a gs)(hp:qA a path)(o:Oper){v:SV}{O':w9}{w8:Nat}(hr:(K3 M.C fr gs path O nx o.op).ok O nx v O' w8):Y9 M J w o a.eval v O' w8:=by
 have A:At M J w O nx a.eval (rJ fr gs path):=⟨H,hT,fun x sv hx=>W8 hf hg hp hx⟩;obtain⟨dst,op,ty,pos,af,gd⟩:=o;cases op with
 |pick c x y=>
  simp only[K3,Na]at hr;split at hr
  case h_2=>exact hr.elim
  rename_i s;split at hr
  case h_2=>exact hr.elim
  rename_i b hb;have kS:=X3 (A.L _ _ hb);split at hr
  case h_2=>exact hr.elim
  rename_i p q hx hy;refine A.val hr ⟨.bool (bif b then p else q), .inl ?_,rfl⟩;cases b with
  |true=>
   have h2:=X3 (W8 hf hg (path:=(s,true)::path) (fun z hz=>by
    rcases zK.1 hz with rfl|hz
    exact kS
    exact hp z hz) hx)
   simp[execOp,kS,h2,asBool]
  |false=>
   have h2:=X3 (W8 hf hg (path:=(s,false)::path) (fun z hz=>by
    rcases zK.1 hz with rfl|hz
    exact kS
    exact hp z hz) hy)
   simp[execOp,kS,h2,asBool]
 |_=>exact Cq A _ hr
theorem WF(hT:qa M.P M.C.T){ops:Array Oper}{Q:Exit->Act->World->Prop}:∀(rest:List Oper) {fr:Fr} {gs:Gs} {O:w9} {nx:Nat} {K:Fr->w9->Nat->Prop},me M ops.toList rest fr gs O nx K->
 ∀{J:Env} {a:Act} {w:World},wz M J fr O nx a w->ay J a gs->(∀J fr O nx a w,wz M J fr O nx a w->K fr O nx->Q .normal a w)->wpListIn M.wS 0 M.P ops Q rest a w
 | [],fr,gs,O,nx,K,h,J,a,w,hm,hg,hq=>hq J fr O nx a w hm h
 |o::rest,fr,gs,O,nx,K,h,J,a,w,hm,hg,hq=>by
  replace h:DF M ops.toList o rest (me M ops.toList rest) fr gs O nx K:=h
  unfold DF at h;split at h
  exact h.out.elim;rename_i hd;split at h
  exact h.out.elim;rename_i hfresh;split at h
  .rename_i HO;refine XB (Uu HO) ?_
   have main:∀{op:Op},o.op=op->((K3 M.C fr gs [] O nx op).go O nx fun v O nx=>qQ o.dst v fr fun fr=>me M ops.toList rest fr gs O nx K)->o.wpIn M.wS 0 M.P a w (wpListIn M.wS 0 M.P ops Q rest) Q:=by
    intro op ho h;subst ho;obtain⟨v,O',w8,h1,h2⟩:=wW.go_ok h;obtain⟨u,w',η',h3,h4,h5,h6,_⟩:=Me hT hm.heap hm.frame hg (fun x hx=>by cases hx) o h1;obtain⟨cw,h7,h8⟩:=hm.put hd h4 h5 h6 h2;exact Cw M.all h3 (WF hT rest h7 h8 (hg.put h4 hfresh) hq)
   split at h
   .rename_i c ho;split at h
    exact main ho h
    .split at h
     .rename_i f args hc;rw[Jc]at h;refine Ma ho hm.heap (fun x sv hx=>W8 hm.frame hg (fun x hx=>by cases hx) hx) hc h fun v r O' w8 η' w' h1 h2 h3 h4=>?_;rw[Yz,U8]at h4;obtain⟨cw,h7,h8⟩:=hm.put hd h1 h2 h3 h4;exact WF hT rest h7 h8 (hg.put h1 hfresh) hq
     exact h.out.elim
   exact main rfl h
  .rename_i j want HO;split at h
   exact h.out.elim;rename_i s hs;split at h
   exact h.out.elim;rename_i d bg;split at h
   exact h.out.elim;rename_i hnot;split at h
   exact h.out.elim;rename_i g CA;obtain⟨v,h1,h2⟩:=wW.mI h;rw[bg]at hd hfresh;have hlt:d<a.tmps.size:=by rw[hm.size];exact Ct hd
   have next:∀{η':Env} {u:Value} {w':World},J<+:η'->uY M η' w' O nx->(qA a (rL gs s want)->Den η' v u)->(¬qA a (rL gs s want)->u=undef)->wpListIn M.wS 0 M.P ops Q rest (a.put o.dst u) w':=by
    intro η' u w' hp hH hv hn;rw[bg];refine WF hT rest h2 ⟨hH,by rw[Cs];exact hm.size,hm.cN,by rw[put_defers,M9 hd hm.cN];exact hm.defers.mono hp,Us hp hm.ro,(hm.frame.mono hp).put hlt (by simp only[Den])⟩ ?_ hq;intro t p sv ht;rw[Za]at ht;split at ht
    .rename_i e;subst e;injection ht with ht;injection ht with ht1 ht2;subst ht1 ht2;rw[qA.put hnot,M8 hlt];exact⟨hv,hn⟩
    exact(hg.put (u:=u) hp hfresh) t p sv ht
   by_cases hw:a.tmps.getD s undef= .bool want
   .have hp:=Zh0 hg hw;have hgt:=Md hm.frame hg CA hp;obtain⟨u,w',η',h3,h4,h5,h6,_⟩:=Me hT hm.heap hm.frame hg hp o (h1 hgt O nx);exact XB ((Zz HO).2 (Uc hs hw)) (Cw M.all h3 (next h4 h5 (fun _=>h6) (fun h=>absurd hp h)))
   .have hnp:¬qA a (rL gs s want):=fun hp=>hw (hp (s,want) (y5 ..));exact XK (hF:=M.all) (fun hh=>by rw[Zz HO]at hh;exact Ut hs hw hh) (next zw hm.heap (fun h=>absurd h hnp) (fun _=>rfl))
theorem Z32{F:Fence}{P:Program}{Q:Exit->Act->World->Prop}{a:Act}{w:World}{c:Code}(h:c.wpIn F 0 P (Exit.noGoto Q) a w):(Code.scope c).wpIn F 0 P Q a w:=by
 have s1:∀{b:Frame} {a:Act} {k:List Item} {cs:List Frame} {w:World},step P (lone (b.atR a (.code (.scope c)::k)) cs w)= .next (lone (b.atR a (.code c:: .inScope c::k)) cs w):=step_lone_go (by simp[stepG,stepG.exec,Frame.atR]);have s2:∀{b:Frame} {a:Act} {k:List Item} {cs:List Frame} {w:World},step P (lone (b.atR a (.inScope c::k)) cs w)= .next (lone (b.atR a k) cs w):=step_lone_go (by simp[stepG,stepG.exec,Frame.atR]);intro b k cs hro hb hr;have h0:(lone (b.atR a (.code (.scope c)::k)) cs w).fenced P F:=fenced_calm hb hr rfl;obtain⟨e,a₁,w₁,hq,jB⟩:=h b (.inScope c::k) cs hro hb hr;cases e with
 |normal=>exact⟨.normal,a₁,w₁,hq, .head h0 s1 (StepsIn.trans jB (.one (fenced_calm hb hr rfl) s2))⟩
 |exit id=>
  have hx:exitTo id (.inScope c::k)=exitTo id k:=by simp[exitTo]
  exact⟨.exit id,a₁,w₁,hq,fun k' hk=> .head h0 s1 (jB.1 k' (by rw[hx];exact hk)),fun hr' hk=>let⟨k₁,h1,h2⟩:=jB.2 hr' (by rw[hx];exact hk);⟨k₁,h1, .head h0 s1 h2⟩⟩
 |goto l=>exact hq.elim
 |ret=>exact⟨_,a₁,w₁,hq, .of_steps (.one h0 s1) jB⟩
 |panic ch=>exact⟨_,a₁,w₁,hq, .of_steps (.one h0 s1) jB⟩
 |outgrown=>exact⟨_,a₁,w₁,hq, .of_steps (.one h0 s1) jB⟩
theorem Z8h(hT:qa M.P M.C.T){id:Nat}{ops:Array Oper}{fr:Fr}{K:Fr->w9->Nat->Prop}{Q:Exit->Act->World->Prop}
 (h:match guarded ops.toList&&!(Nc ops.toList)&&M.px.isNone with|true=>me M ops.toList ops.toList fr [] O nx K|false=>pV M ops.toList ops.toList fr O nx K) {a:Act} (hm:wz M J fr O nx a w) (hq:∀J fr O nx a w,wz M J fr O nx a w->K fr O nx->Q .normal a w) (hp:∀ch a w,Hu M ch a w->Q (.panic ch) a w):
 (Code.region id ops false).wpIn M.wS 0 M.P Q a w:=by
 refine wpIn_region_list ?_;split at h
 exact WF hT _ h hm (fun t p sv ht=>by simp[wu]at ht) hq;exact Cz hT _ h hm hq hp
theorem Y4(hT:qa M.P M.C.T):∀(c:Code) {fr:Fr} {O:w9} {nx:Nat} {Q:Post},run M c fr O nx Q->Walk M c fr O nx Q
 | .skip,fr,O,nx,Q,h=>fun J a w hm=>wpIn_skip ⟨J,fr,O,nx,hm,h⟩
 | .label l,fr,O,nx,Q,h=>fun J a w hm=>wpIn_label ⟨J,fr,O,nx,hm,h⟩
 | .ret,fr,O,nx,Q,h=>fun J a w hm=>wpIn_ret ⟨J,fr,O,nx,hm,h⟩
 | .exit id,fr,O,nx,Q,h=>fun J a w hm=>wpIn_exit ⟨J,fr,O,nx,hm,h⟩
 | .region id ops draw,fr,O,nx,Q,h=>by
   simp only[run,Nd]at h;cases draw with
   |true=>exact h.out
   |false=>exact fun J a w hm=>Z8h hT h hm (fun J fr O nx a w hm hk=>⟨J,fr,O,nx,hm,hk⟩) fun ch a w h=>h
 | .seq x y,fr,O,nx,Q,h=>fun J a w hm=>by
   refine wpIn_seq (Code.wpIn_mono ?_ (Y4 hT x h J a w hm));intro e a w hq;cases e with
   |normal=>obtain⟨J,fr,O,nx,hm,hq⟩:=hq;exact Y4 hT y hq J a w hm
   |exit id=>exact hq
   |ret=>exact hq
   |goto l=>exact hq
   |panic ch=>exact hq
   |outgrown=>exact hq
 | .cond c x y,fr,O,nx,Q,h=>fun J a w hm=>by
   simp only[run,Nf]at h;split at h
   case h_3=>exact h.out.elim
   case h_2 n hb=>
    have kS:=YA hm.frame hb;simp only[Den]at kS;obtain⟨b,kS,h0⟩:=kS;split at h
    case h_2=>exact h.out.elim
    rename_i t;refine wpIn_cond_split kS (fun e=>?_) (fun e=>?_)
    .subst e;exact Y4 hT x (h.t (h0 rfl)) J a w (hm.know (s:=t) (show wu t fr=_ from hb) rfl rfl kS)
    .subst e;exact Y4 hT y h.f J a w (hm.know (s:=t) (show wu t fr=_ from hb) rfl rfl kS)
   rename_i b hb;have kS:=X3 (YA hm.frame hb);split at h
   .rename_i t;refine wpIn_cond_split kS (fun e=>?_) (fun e=>?_)
    .subst e;exact Y4 hT x (h.t rfl) J a w (hm.know (s:=t) (show wu t fr=_ from hb) rfl rfl kS)
    .subst e;exact Y4 hT y (h.f rfl) J a w (hm.know (s:=t) (show wu t fr=_ from hb) rfl rfl kS)
   .refine wpIn_cond_split kS (fun e=>?_) (fun e=>?_);subst e;exact Y4 hT x (h.t rfl) J a w hm;subst e;exact Y4 hT y (h.f rfl) J a w hm
 | .block id body,fr,O,nx,Q,h=>fun J a w hm=>by
   refine wpIn_block (Code.wpIn_mono ?_ (Y4 hT body h J a w hm));intro e a w hq;cases e with
   |normal=>exact hq
   |exit i=>
    obtain⟨J,fr,O,nx,hm,hq⟩:=hq;simp only[Exit.inBlock];simp only at hq;split at hq
    .rename_i e;have e:=Zs e;subst e;rw[zh rfl];exact⟨J,fr,O,nx,hm,hq⟩
    .rename_i e;rw[z7 (JA e)];exact⟨J,fr,O,nx,hm,hq⟩
   |ret=>exact hq
   |goto l=>exact hq
   |panic ch=>exact hq
   |outgrown=>exact hq
 | .loop body,fr,O,nx,Q,h=>fun J a w hm b k cs hro hb hr=>
   let⟨e,a',w',hq,jB⟩:=h.out J a w hm b k cs hro
   ⟨e,a',w',hq, .of_steps (.one (fenced_calm hb hr rfl) stepR_loop) jB⟩
 | .scope body,fr,O,nx,Q,h=>fun J a w hm=>by
   refine Z32 (Code.wpIn_mono ?_ (Y4 hT body h J a w hm));intro e a w hq;cases e<;>exact hq
 | .rangeFunc f ps cM body,fr,O,nx,Q,h=>h.out
 | .goto _,fr,O,nx,Q,h=>h.out.elim
 | .refuse _,fr,O,nx,Q,h=>h.out.elim
structure w5(M:Mx)(fr:Fr)(O:w9)(nx:Nat)(fr':Fr)(O':w9)(w8:Nat):Prop where
 out:∀J a w,wz M J fr O nx a w->∃η',wz M η' fr' O' w8 a w
theorem wj.inv{body:Code}{fr:Fr}{Q:Post}(hT:qa M.P M.C.T){X:Type}(P:X->Prop)(I:X->Fr×w9×Nat)(Y:X->Nat)(x0:X)(hP:P x0)(h0:w5 M fr O nx (I x0).1 (I x0).2.1 (I x0).2.2)
 (hr:∀x,P x->run M body (I x).1 (I x).2.1 (I x).2.2 fun e fr O nx=>match e with
   | .normal=> ∃x',P x'/\Y x'<Y x/\w5 M fr O nx (I x').1 (I x').2.1 (I x').2.2
   |e=>Q e fr O nx):wj M body fr O nx Q:=by
 refine⟨fun J a w hm=>?_⟩;obtain⟨η',hm0⟩:=h0.out J a w hm;intro b k cs hro;have hb:M.wS.fn b.fn:=M.all _;have hrm:M.wS.room (cs.length+1+0):=M.room _
 have key:∀n x J a w,P x->Y x=n->wz M J (I x).1 (I x).2.1 (I x).2.2 a w->
  ∃e a' w',K2 M Q e a' w'/\ArrivesIn (Machine.fenced M.P M.wS) M.P (lone (b.atR a (.code body:: .inLoop body::k)) cs w) b k cs e a' w':=by
  intro n
  induction n using Nat.strongRecOn with
  |_ n ih=>
   intro x J a w hx hn hm;obtain⟨e,a',w',hq,jB⟩:=Y4 hT body (hr x hx) J a w hm b (.inLoop body::k) cs hro hb hrm;cases e with
   |normal=>
    obtain⟨η1,jR,O1,qq,jh,x',hx',hlt,hnext⟩:=hq;obtain⟨η2,hm2⟩:=hnext.out η1 a' w' jh;obtain⟨e2,a2,w2,oa,mJ⟩:=ih (Y x') (hn▸hlt) x' η2 a' w' hx' rfl hm2;exact⟨e2,a2,w2,oa, .of_steps (StepsIn.trans jB (.one (fenced_calm hb hrm rfl) stepR_inLoop)) mJ⟩
   |exit id=>
    obtain⟨η1,jR,O1,qq,jh,hq⟩:=hq;exact⟨.exit id,a',w',⟨η1,jR,O1,qq,jh,hq⟩, .pass (x:= .inLoop body) rfl (fun _ _=> .inl (by simp)) jB⟩
   |ret=>
    obtain⟨η1,jR,O1,qq,jh,hq⟩:=hq;exact⟨.ret,a',w',⟨η1,jR,O1,qq,jh,hq⟩, .pass (x:= .inLoop body) rfl (fun _ _=> .inl (by simp)) jB⟩
   |goto l=>exact hq.elim
   |panic ch=>exact⟨.panic ch,a',w',hq, .pass (x:= .inLoop body) rfl (fun _ _=> .inl (by simp)) jB⟩
   |outgrown=>exact hq.elim
 exact key _ x0 η' a w hP rfl hm0
theorem wj.once{body:Code}{fr:Fr}{Q:Post}(hT:qa M.P M.C.T)
 (hr:run M body fr O nx fun e fr O nx=>match e with
   | .normal=>wj M body fr O nx Q
   |e=>Q e fr O nx):wj M body fr O nx Q:=by
 refine⟨fun J a w hm=>?_⟩;intro b k cs hro;have hb:M.wS.fn b.fn:=M.all _;have hrm:M.wS.room (cs.length+1+0):=M.room _;obtain⟨e,a',w',hq,jB⟩:=Y4 hT body hr J a w hm b (.inLoop body::k) cs hro hb hrm;cases e with
 |normal=>
  obtain⟨η1,jR,O1,qq,jh,hq⟩:=hq;obtain⟨e2,a2,w2,oa,mJ⟩:=hq.out η1 a' w' jh b k cs hro;exact⟨e2,a2,w2,oa, .of_steps (StepsIn.trans jB (.one (fenced_calm hb hrm rfl) stepR_inLoop)) mJ⟩
 |exit id=>
  obtain⟨η1,jR,O1,qq,jh,hq⟩:=hq;exact⟨.exit id,a',w',⟨η1,jR,O1,qq,jh,hq⟩,(.pass (x:= .inLoop body) rfl (fun _ _=> .inl (by simp)) jB)⟩
 |ret=>
  obtain⟨η1,jR,O1,qq,jh,hq⟩:=hq;exact⟨.ret,a',w',⟨η1,jR,O1,qq,jh,hq⟩,(.pass (x:= .inLoop body) rfl (fun _ _=> .inl (by simp)) jB)⟩
 |goto l=>exact hq.elim
 |panic ch=>exact⟨.panic ch,a',w',hq, .pass (x:= .inLoop body) rfl (fun _ _=> .inl (by simp)) jB⟩
 |outgrown=>exact hq.elim
end
def qo(σ:Nat->Nat):qP->qP
 | .qf g=> .qf g
 | .loc i=> .loc (σ i)
mutual
def wR(σ:Nat->Nat):SV->SV
 | .bool b=> .bool b
 | .int k n=> .int k n
 | .str s=> .str s
 | .ptr b r es c=> .ptr (qo σ b) r es c
 | .sl b r es len lim=> .sl (qo σ b) r es len lim
 | .val v=> .val v
 | .agg cs=> .agg (qg σ cs)
 | .arr es rs=> .arr es (Xo σ rs)
 | .wM vs=> .wM (qg σ vs)
 | .dX t v=> .dX t (wR σ v)
 | .fn f a b=> .fn f (qg σ a) (qg σ b)
 | .mp b=> .mp (qo σ b)
 | .any=> .any
 | .nb n=> .nb n
 | .yf b=> .yf (qo σ b)
 | .eE l=> .eE (qg σ l)
def qg(σ:Nat->Nat):List SV->List SV
 | []=>[]
 |c::cs=>wR σ c::qg σ cs
def Xo(σ:Nat->Nat):List (List SV)->List (List SV)
 | []=>[]
 |r::rs=>qg σ r::Xo σ rs
end
def gM(σ:Nat->Nat):Fr->Fr
 | []=>[]
 |(t,v)::r=>(t,wR σ v)::gM σ r
def eW(σ:Nat->Nat):DC->DC
 | .v s=> .v (wR σ s)
 | .wZ es rows=> .wZ es (Xo σ rows)
def pE(σ:Nat->Nat):List DC->List DC
 | []=>[]
 |c::cs=>eW σ c::pE σ cs
def XL(σ:Nat->Nat):List (List DC)->List (List DC)
 | []=>[]
 |r::rs=>pE σ r::XL σ rs
theorem CB(σ:Nat->Nat):∀r:List DC,pE σ r=r.map (eW σ)
 | []=>rfl
 |c::cs=>by simp only[pE,zI,CB σ cs]
theorem CC(σ:Nat->Nat):∀rs:List (List DC),XL σ rs=rs.map (pE σ)
 | []=>rfl
 |c::cs=>by simp only[XL,zI,CC σ cs]
theorem Mf(σ:Nat->Nat):∀r:List SV,qg σ r=r.map (wR σ)
 | []=>rfl
 |c::cs=>by simp only[qg,zI,Mf σ cs]
theorem Mg(σ:Nat->Nat):∀rs:List (List SV),Xo σ rs=rs.map (qg σ)
 | []=>rfl
 |c::cs=>by simp only[Xo,zI,Mg σ cs]
theorem Zeu(σ:Nat->Nat)(c:DC):ZT (eW σ c)=wR σ (ZT c):=by cases c<;>rfl
theorem Ud(σ:Nat->Nat)(rs:List (List DC)):ZB (XL σ rs)=Xo σ (ZB rs):=by
 rw[CC,Mg];unfold ZB;rw[xF,xF];refine yO fun r _=>?_;simp only[Function.comp,CB,Mf,xF];exact yO fun c _=>Zeu σ c
theorem V8(σ:Nat->Nat)(rs:List (List DC))(i j:Nat):Yl (XL σ rs) i j=(Yl rs i j).map fun x=>(x.1,Xo σ x.2):=by
 unfold Yl;rw[CC,z6];cases rs[i]? with
 |none=>rfl
 |some row=>
  simp only[Option.map_some,CB,z6];cases row[j]? with
  |none=>rfl
  |some c=>cases c<;>rfl
def wJ(σ:Nat->Nat):Hp->Hp
 | .box row=> .box (qg σ row)
 | .rows es rs=> .rows es (Xo σ rs)
 | .qM s p=> .qM s p
 | .ak vs=> .ak vs
 | .jJ T e l=> .jJ T e l
 | .eP f=> .eP f
 | .lp st li fr=> .lp st li (gM σ fr)
 | .mp rs=> .mp (Xo σ rs)
 | .deep mp es rs=> .deep mp es (XL σ rs)
theorem ZH{J:Type}(f:J->List SV)(h:∀x,YM (f x)=true):∀xs:List J,Zp (xs.map f)=true
 | []=>rfl
 |x::xs=>by simp only[zI,Zp,h x,ZH f h xs,zD]
theorem VX:∀{xs ys:List (List SV)},Zp xs=true->Zp ys=true->Zp (xs++ys)=true
 | [],ys,_,h=>h
 |x::xs,ys,h,k=>by
  simp only[Zp,zk]at h;simp only[List.cons_append,Zp,h.1,VX h.2 k,zD]
mutual
theorem X9(σ:Nat->Nat):∀{v:SV},plain v=true->wR σ v=v
 | .bool _,_=>rfl
 | .int _ _,_=>rfl
 | .str _,_=>rfl
 | .val _,_=>rfl
 | .any,_=>rfl
 | .nb _,_=>rfl
 | .ptr (.qf _) _ _ _,_=>rfl
 | .ptr (.loc _) _ _ _,h=>by simp[plain]at h
 | .sl (.qf _) _ _ _ _,_=>rfl
 | .sl (.loc _) _ _ _ _,h=>by simp[plain]at h
 | .agg cs,h=>by simp only[plain]at h;simp only[wR,ZN σ h]
 | .arr _ rs,h=>by simp only[plain]at h;simp only[wR,Zb σ h]
 | .wM vs,h=>by simp only[plain]at h;simp only[wR,ZN σ h]
 | .dX _ v,h=>by simp only[plain]at h;simp only[wR,X9 σ h]
 | .fn _ a b,h=>by simp only[plain,zk]at h;simp only[wR,ZN σ h.1,ZN σ h.2]
 | .mp (.qf _),_=>rfl
 | .mp (.loc _),h=>by simp[plain]at h
 | .yf _,h=>by simp[plain]at h
 | .eE _,h=>by simp[plain]at h
theorem ZN(σ:Nat->Nat):∀{vs:List SV},YM vs=true->qg σ vs=vs
 | [],_=>rfl
 |c::cs,h=>by simp only[YM,zk]at h;simp only[qg,X9 σ h.1,ZN σ h.2]
theorem Zb(σ:Nat->Nat):∀{vs:List (List SV)},Zp vs=true->Xo σ vs=vs
 | [],_=>rfl
 |c::cs,h=>by simp only[Zp,zk]at h;simp only[Xo,ZN σ h.1,Zb σ h.2]
end
theorem CD(σ:Nat->Nat):∀{fr:Fr},QY fr=true->gM σ fr=fr
 | [],_=>rfl
 |(t,v)::r,h=>by simp only[QY,zk]at h;simp only[gM,X9 σ h.1,CD σ h.2]
theorem Mh(σ:Nat->Nat):∀{c:DC},ia c=true->eW σ c=c
 | .v s,h=>by simp only[ia]at h;simp only[eW,X9 σ h]
 | .wZ _ rs,h=>by simp only[ia]at h;simp only[eW,Zb σ h]
theorem Uv(σ:Nat->Nat):∀{r:List DC},JM r=true->pE σ r=r
 | [],_=>rfl
 |c::cs,h=>by simp only[JM,zk]at h;simp only[pE,Mh σ h.1,Uv σ h.2]
theorem VH(σ:Nat->Nat):∀{r:List (List DC)},YU r=true->XL σ r=r
 | [],_=>rfl
 |c::cs,h=>by simp only[YU,zk]at h;simp only[XL,Uv σ h.1,VH σ h.2]
theorem Zu(σ:Nat->Nat){h:Hp}(p:V1 h=true):wJ σ h=h:=by
 cases h<;>simp only[V1]at p<;>simp only[wJ,ZN σ,Zb σ,CD σ,VH σ,p]
section
variable {K η':Env}{σ:Nat->Nat}
def pZ(K η':Env)(σ:Nat->Nat):Prop:=∀i x,K[i]?=some x->η'[σ i]?=some x
theorem pZ.get(h:pZ K η' σ){b:qP}{x:Option kM}(hb:K.get b=some x):η'.get (qo σ b)=some x:=by
 cases b with
 |qf g=>exact hb
 |loc i=>exact h i x hb
mutual
theorem Den.wR(h:pZ K η' σ):∀{sv:SV} {v:Value},Den K sv v->Den η' (wR σ sv) v
 | .bool _,_,d=>d
 | .int _ _,_,d=>d
 | .str _,_,d=>d
 | .ptr b r es c,v,d=>by
   simp only[Den,Go.Sx.wR]at d⊢;obtain⟨e,h1,h2⟩:=d;exact⟨e,h.get h1,h2⟩
 | .sl b r es len lim,v,d=>by
   simp only[Den,Go.Sx.wR]at d⊢;rcases d with⟨h1,h2⟩|⟨e,o,h1,h2⟩
   exact .inl ⟨h.get h1,h2⟩;exact .inr ⟨e,o,h.get h1,h2⟩
 | .val _,_,d=>d
 | .agg cs,v,d=>by
   simp only[Den,Go.Sx.wR]at d⊢;obtain⟨vs,h1,h2,h3⟩:=d;exact⟨vs,h1,w6.wR h h2,h3⟩
 | .arr es rs,v,d=>by
   simp only[Den,Go.Sx.wR]at d⊢;obtain⟨vs,h1,h2,h3⟩:=d;exact⟨vs,h1,wI.wR h h2,h3⟩
 | .wM ts,v,d=>by
   simp only[Den,Go.Sx.wR]at d⊢;obtain⟨vs,h1,h2⟩:=d;exact⟨vs,h1,w6.wR h h2⟩
 | .dX t x,v,d=>by
   simp only[Den,Go.Sx.wR]at d⊢;obtain⟨u,h1,h2⟩:=d;exact⟨u,h1,Den.wR h h2⟩
 | .fn f a b,v,d=>by
   simp only[Den,Go.Sx.wR]at d⊢;obtain⟨us,vs,h1,h2,h3⟩:=d;exact⟨us,vs,h1,w6.wR h h2,w6.wR h h3⟩
 | .mp b,v,d=>by
   simp only[Den,Go.Sx.wR]at d⊢;obtain⟨e,h1,h2⟩:=d;exact⟨e,h.get h1,h2⟩
 | .yf b,v,d=>by
   simp only[Den,Go.Sx.wR]at d⊢;obtain⟨e,h1,h2⟩:=d;exact⟨e,h.get h1,h2⟩
 | .eE _,_,d=>d
 | .any,_,d=>d
 | .nb _,_,d=>d
theorem w6.wR(h:pZ K η' σ):∀{cs:List SV} {vs:List Value},w6 K cs vs->w6 η' (qg σ cs) vs
 | [],_,d=>d
 |c::cs,vs,d=>by
  simp only[w6,qg]at d⊢;obtain⟨u,us,h1,h2,h3⟩:=d;exact⟨u,us,h1,Den.wR h h2,w6.wR h h3⟩
theorem wI.wR{es:Nat}(h:pZ K η' σ):∀{rs:List (List SV)} {vs:List Value},wI K es rs vs->wI η' es (Xo σ rs) vs
 | [],_,d=>d
 |r::rs,vs,d=>by
  simp only[wI,Xo]at d⊢;obtain⟨us,ws,h1,h2,h3,h4⟩:=d;exact⟨us,ws,h1,h2,w6.wR h h3,wI.wR h h4⟩
end
def dL(K η':Env)(σ:Nat->Nat)(k:Nat):Prop:=∀i x,i<k->K[σ i]?=some x->η'[i]?=some x
mutual
def ZV(k:Nat):SV->Bool
 | .bool _| .int _ _| .str _| .val _| .any| .nb _=>true
 | .ptr b _ _ _=>r5 k b
 | .sl b _ _ _ _=>r5 k b
 | .agg cs=>ZO k cs
 | .arr _ rs=>Yw k rs
 | .wM vs=>ZO k vs
 | .dX _ v=>ZV k v
 | .fn _ a b=>ZO k a&&ZO k b
 | .mp b=>r5 k b
 | .yf b=>r5 k b
 | .eE l=>ZO k l
def ZO(k:Nat):List SV->Bool
 | []=>true
 |c::cs=>ZV k c&&ZO k cs
def Yw(k:Nat):List (List SV)->Bool
 | []=>true
 |r::rs=>ZO k r&&Yw k rs
def r5(k:Nat):qP->Bool
 | .qf _=>true
 | .loc i=>Nat.blt i k
end
def r6(k:Nat):Fr->Bool
 | []=>true
 |(_,v)::r=>ZV k v&&r6 k r
def rS(k:Nat):DC->Bool
 | .v s=>ZV k s
 | .wZ _ rs=>Yw k rs
def XC(k:Nat):List DC->Bool
 | []=>true
 |c::cs=>rS k c&&XC k cs
def YC(k:Nat):List (List DC)->Bool
 | []=>true
 |r::rs=>XC k r&&YC k rs
def Zi(k:Nat):Hp->Bool
 | .box row=>ZO k row
 | .rows _ rs=>Yw k rs
 | .qM _ _=>true
 | .ak _=>true
 | .jJ _ _ _=>true
 | .mp rs=>Yw k rs
 | .eP _=>true
 | .lp _ _ fr=>r6 k fr
 | .deep _ _ rs=>YC k rs
mutual
theorem XD(k:Nat):∀{v:SV},plain v=true->ZV k v=true
 | .bool _,_=>rfl
 | .int _ _,_=>rfl
 | .str _,_=>rfl
 | .val _,_=>rfl
 | .any,_=>rfl
 | .nb _,_=>rfl
 | .ptr (.qf _) _ _ _,_=>rfl
 | .ptr (.loc _) _ _ _,h=>by simp[plain]at h
 | .sl (.qf _) _ _ _ _,_=>rfl
 | .sl (.loc _) _ _ _ _,h=>by simp[plain]at h
 | .agg cs,h=>by simp only[plain]at h;simp only[ZV,ZF k h]
 | .arr _ rs,h=>by simp only[plain]at h;simp only[ZV,Z2 k h]
 | .wM vs,h=>by simp only[plain]at h;simp only[ZV,ZF k h]
 | .dX _ v,h=>by simp only[plain]at h;simp only[ZV,XD k h]
 | .fn _ a b,h=>by simp only[plain,zk]at h;simp only[ZV,ZF k h.1,ZF k h.2,zD]
 | .mp (.qf _),_=>rfl
 | .mp (.loc _),h=>by simp[plain]at h
 | .yf _,h=>by simp[plain]at h
 | .eE _,h=>by simp[plain]at h
theorem ZF(k:Nat):∀{vs:List SV},YM vs=true->ZO k vs=true
 | [],_=>rfl
 |c::cs,h=>by simp only[YM,zk]at h;simp only[ZO,XD k h.1,ZF k h.2,zD]
theorem Z2(k:Nat):∀{vs:List (List SV)},Zp vs=true->Yw k vs=true
 | [],_=>rfl
 |c::cs,h=>by simp only[Zp,zk]at h;simp only[Yw,ZF k h.1,Z2 k h.2,zD]
end
theorem Wa(k:Nat):∀{fr:Fr},QY fr=true->r6 k fr=true
 | [],_=>rfl
 |(t,v)::r,h=>by simp only[QY,zk]at h;simp only[r6,XD k h.1,Wa k h.2,zD]
theorem Mi(k:Nat):∀{c:DC},ia c=true->rS k c=true
 | .v s,h=>by simp only[ia]at h;simp only[rS,XD k h]
 | .wZ _ rs,h=>by simp only[ia]at h;simp only[rS,Z2 k h]
theorem JT(k:Nat):∀{r:List DC},JM r=true->XC k r=true
 | [],_=>rfl
 |c::cs,h=>by simp only[JM,zk]at h;simp only[XC,Mi k h.1,JT k h.2,zD]
theorem Jp(k:Nat):∀{r:List (List DC)},YU r=true->YC k r=true
 | [],_=>rfl
 |c::cs,h=>by simp only[YU,zk]at h;simp only[YC,JT k h.1,Jp k h.2,zD]
theorem Yj(k:Nat){h:Hp}(p:V1 h=true):Zi k h=true:=by
 cases h<;>simp only[V1]at p<;>simp only[Zi,ZF k,Z2 k,Wa k,Jp k,p]
variable {k:Nat}
theorem dL.get(h:dL K η' σ k){b:qP}{x:Option kM}(hk:r5 k b=true)(hb:K.get (qo σ b)=some x):η'.get b=some x:=by
 cases b with
 |qf g=>exact hb
 |loc i=>exact h i x (by simpa[r5]using hk) hb
mutual
theorem Den.wG(h:dL K η' σ k):∀{sv:SV} {v:Value},ZV k sv=true->Den K (wR σ sv) v->Den η' sv v
 | .bool _,_,_,d=>d
 | .int _ _,_,_,d=>d
 | .str _,_,_,d=>d
 | .ptr b r es c,v,hk,d=>by
   simp only[Den,Go.Sx.wR]at d⊢;obtain⟨e,h1,h2⟩:=d;exact⟨e,h.get (by simpa[ZV]using hk) h1,h2⟩
 | .sl b r es len lim,v,hk,d=>by
   simp only[Den,Go.Sx.wR]at d⊢;rcases d with⟨h1,h2⟩|⟨e,o,h1,h2⟩
   exact .inl ⟨h.get (by simpa[ZV]using hk) h1,h2⟩;exact .inr ⟨e,o,h.get (by simpa[ZV]using hk) h1,h2⟩
 | .val _,_,_,d=>d
 | .agg cs,v,hk,d=>by
   simp only[ZV]at hk;simp only[Den,Go.Sx.wR]at d⊢;obtain⟨vs,h1,h2,h3⟩:=d;exact⟨vs,h1,w6.wG h hk h2,h3⟩
 | .arr es rs,v,hk,d=>by
   simp only[ZV]at hk;simp only[Den,Go.Sx.wR]at d⊢;obtain⟨vs,h1,h2,h3⟩:=d;exact⟨vs,h1,wI.wG h hk h2,h3⟩
 | .wM ts,v,hk,d=>by
   simp only[ZV]at hk;simp only[Den,Go.Sx.wR]at d⊢;obtain⟨vs,h1,h2⟩:=d;exact⟨vs,h1,w6.wG h hk h2⟩
 | .dX t x,v,hk,d=>by
   simp only[ZV]at hk;simp only[Den,Go.Sx.wR]at d⊢;obtain⟨u,h1,h2⟩:=d;exact⟨u,h1,Den.wG h hk h2⟩
 | .fn f a b,v,hk,d=>by
   simp only[ZV,zk]at hk;simp only[Den,Go.Sx.wR]at d⊢;obtain⟨us,vs,h1,h2,h3⟩:=d;exact⟨us,vs,h1,w6.wG h hk.1 h2,w6.wG h hk.2 h3⟩
 | .mp b,v,hk,d=>by
   simp only[Den,Go.Sx.wR]at d⊢;obtain⟨e,h1,h2⟩:=d;exact⟨e,h.get (by simpa[ZV]using hk) h1,h2⟩
 | .yf b,v,hk,d=>by
   simp only[Den,Go.Sx.wR]at d⊢;obtain⟨e,h1,h2⟩:=d;exact⟨e,h.get (by simpa[ZV]using hk) h1,h2⟩
 | .eE _,_,_,d=>d
 | .any,_,_,d=>d
 | .nb _,_,_,d=>d
theorem w6.wG(h:dL K η' σ k):∀{cs:List SV} {vs:List Value},ZO k cs=true->w6 K (qg σ cs) vs->w6 η' cs vs
 | [],_,_,d=>d
 |c::cs,vs,hk,d=>by
  simp only[ZO,zk]at hk;simp only[w6,qg]at d⊢;obtain⟨u,us,h1,h2,h3⟩:=d;exact⟨u,us,h1,Den.wG h hk.1 h2,w6.wG h hk.2 h3⟩
theorem wI.wG{es:Nat}(h:dL K η' σ k):∀{rs:List (List SV)} {vs:List Value},Yw k rs=true->wI K es (Xo σ rs) vs->wI η' es rs vs
 | [],_,_,d=>d
 |r::rs,vs,hk,d=>by
  simp only[Yw,zk]at hk;simp only[wI,Xo]at d⊢;obtain⟨us,ws,h1,h2,h3,h4⟩:=d;exact⟨us,ws,h1,h2,w6.wG h hk.1 h3,wI.wG h hk.2 h4⟩
end
theorem CF:∀{row:List SV} {j:Nat},(qg σ row)[j]?=(row[j]?).map (wR σ)
 | [],j=>by simp[qg]
 |c::cs,0=>by simp[qg]
 |c::cs,j+1=>by simp[qg,CF (row:=cs) (j:=j)]
theorem Ux:∀{row:List SV},(qg σ row).length=row.length
 | []=>rfl
 |c::cs=>by simp[qg,Ux (row:=cs)]
theorem Xa:∀{rs:List (List SV)} {j:Nat},(Xo σ rs)[j]?=(rs[j]?).map (qg σ)
 | [],j=>by simp[Xo]
 |c::cs,0=>by simp[Xo]
 |c::cs,j+1=>by simp[Xo,Xa (rs:=cs) (j:=j)]
theorem Yd:∀{row:List (List SV)},(Xo σ row).length=row.length
 | []=>rfl
 |c::cs=>by simp[Xo,Yd (row:=cs)]
theorem Mj:∀{row:List SV} {j:Nat} {c:SV},ZO k row=true->row[j]?=some c->ZV k c=true
 | [],j,c,_,h=>by simp at h
 |d::cs,0,c,hk,h=>by simp only[ZO,zk]at hk;simp at h;subst h;exact hk.1
 |d::cs,j+1,c,hk,h=>by simp only[ZO,zk]at hk;simp at h;exact Mj hk.2 h
theorem Jd:∀{rs:List (List SV)} {j:Nat} {c:List SV},Yw k rs=true->rs[j]?=some c->ZO k c=true
 | [],j,c,_,h=>by simp at h
 |d::cs,0,c,hk,h=>by simp only[Yw,zk]at hk;simp at h;subst h;exact hk.1
 |d::cs,j+1,c,hk,h=>by simp only[Yw,zk]at hk;simp at h;exact Jd hk.2 h
theorem wK.wR(h:pZ K η' σ){arr:Array Value}{o:Nat}{row:List SV}(d:wK K arr o row):wK η' arr o (qg σ row):=by
 intro j sv hj;rw[CF]at hj;cases hr:row[j]? with
 |none=>rw[hr]at hj;cases hj
 |some c=>
  rw[hr]at hj;simp only[Option.map_some,zj]at hj;subst hj;obtain⟨v,h1,h2,h3⟩:=d j c hr;exact⟨v,h1,h2,h3.wR h⟩
theorem wK.wG(h:dL K η' σ k){arr:Array Value}{o:Nat}{row:List SV}(hk:ZO k row=true)(d:wK K arr o (qg σ row)):wK η' arr o row:=by
 intro j sv hj;obtain⟨v,h1,h2,h3⟩:=d j (Go.Sx.wR σ sv) (by rw[CF,hj];rfl);exact⟨v,h1,h2,h3.wG h (Mj hk hj)⟩
theorem Mk:∀{fr:Fr} {t:Nat} {v:SV},wu t (gM σ fr)=some v->∃u,wu t fr=some u/\v=wR σ u
 | [],t,v,h=>by simp[gM,wu]at h
 |(d,u)::r,t,v,h=>by
  simp only[gM]at h;rw[Za]at h⊢;split at h
  rename_i e;subst e;injection h with h;exact⟨u,by simp,h.symm⟩
  rename_i e;rw[z7 e];exact Mk h
theorem Ml:∀{fr:Fr} {t:Nat} {u:SV},wu t fr=some u->wu t (gM σ fr)=some (wR σ u)
 | [],t,v,h=>by simp[wu]at h
 |(d,u)::r,t,v,h=>by
  simp only[gM];rw[Za]at h⊢;split at h
  rename_i e;subst e;injection h with h;subst h;rw[zh rfl]
  rename_i e;rw[z7 e];exact Ml h
theorem Mm:∀{fr:Fr} {t:Nat} {v:SV},r6 k fr=true->wu t fr=some v->ZV k v=true
 | [],t,v,_,h=>by simp[wu]at h
 |(d,u)::r,t,v,hb,h=>by
  simp only[r6,zk]at hb;rw[Za]at h;split at h
  injection h with h;subst h;exact hb.1;exact Mm hb.2 h
theorem kY.wR(h:pZ K η' σ){tmps:Array Value}{fr:Fr}(d:kY K tmps fr):kY η' tmps (gM σ fr):=fun t sv ht=>by
 obtain⟨u,h1,rfl⟩:=Mk ht;exact(d t u h1).wR h
theorem kY.wG(h:dL K η' σ k){tmps:Array Value}{fr:Fr}(hk:r6 k fr=true)(d:kY K tmps (gM σ fr)):kY η' tmps fr:=fun t sv ht=>
 (d t _ (Ml ht)).wG h (Mm hk ht)
theorem gG.wR(h:pZ K η' σ){r:Loop}{st:pT}{li:rI}{fr:Fr}(d:gG K r st li fr):gG η' r st li (gM σ fr):=
 let⟨h1,h2,h3,h4,h5,h6,h7⟩:=d;⟨h1,h2,h3,h4,h5,h6,h7.wR h⟩
theorem gG.wG(h:dL K η' σ k){r:Loop}{st:pT}{li:rI}{fr:Fr}(hk:r6 k fr=true)(d:gG K r st li (gM σ fr)):gG η' r st li fr:=
 let⟨h1,h2,h3,h4,h5,h6,h7⟩:=d;⟨h1,h2,h3,h4,h5,h6,h7.wG h hk⟩
theorem fe.wG(h:dL K η' σ k):∀{l:List SV} {ds:List Deferred},ZO k l=true->fe K (qg σ l) ds->fe η' l ds
 | [],ds,_,d=>d
 |c::l,ds,hk,d=>by
  simp only[ZO,zk]at hk;cases c with
  |ptr b _ _ _=>
   simp only[fe,qg,Go.Sx.wR]at d⊢;obtain⟨e,r,h1,h2,h3⟩:=d;exact⟨e,r,h.get (by simpa[ZV]using hk.1) h1,h2,fe.wG h hk.2 h3⟩
  |val v=>
   simp only[fe,qg,Go.Sx.wR]at d⊢;obtain⟨f,r,h1,h2,h3⟩:=d;exact⟨f,r,h1,h2,fe.wG h hk.2 h3⟩
  |fn f x y=>
   simp only[fe,qg,Go.Sx.wR]at d⊢;obtain⟨us,vs,r,h1,h2,h3,h4⟩:=d;have hb:ZO k x=true/\ZO k y=true:=by simpa[ZV]using hk.1
   exact⟨us,vs,r,w6.wG h hb.1 h1,w6.wG h hb.2 h2,h3,fe.wG h hk.2 h4⟩
  |_=>simp only[fe,qg,Go.Sx.wR]at d
theorem qz.wR(h:pZ K η' σ){w:World}{v:Value}{es:Nat}{rows:List (List SV)}(d:qz K w v es rows):qz η' w v es (Xo σ rows):=by
 rcases d with⟨h1,rfl⟩|⟨g,cap,arr,T,fz,h1,h2,h3,h4,h5,h6⟩
 exact .inl ⟨h1,rfl⟩
 .refine .inr ⟨g,cap,arr,T,fz,by rw[Yd];exact h1,h2,h3,h4,by rw[Yd];exact h5,fun j row hr=>?_⟩;rw[Xa]at hr;cases hq:rows[j]? with
  |none=>rw[hq]at hr;cases hr
  |some q=>
   rw[hq]at hr;simp only[Option.map_some,zj]at hr;subst hr;rw[Ux];exact⟨(h6 j q hq).1,(h6 j q hq).2.wR h⟩
theorem qz.wG(h:dL K η' σ k){w:World}{v:Value}{es:Nat}{rows:List (List SV)}(hk:Yw k rows=true)(d:qz K w v es (Xo σ rows)):qz η' w v es rows:=by
 rcases d with⟨h1,h0⟩|⟨g,cap,arr,T,fz,h1,h2,h3,h4,h5,h6⟩
 .refine .inl ⟨h1,?_⟩;have:=ze List.length h0;rw[Yd]at this;exact zJ.1 this
 .refine .inr ⟨g,cap,arr,T,fz,by rw[Yd]at h1;exact h1,h2,h3,h4,by rw[Yd]at h5;exact h5,fun j row hr=>?_⟩;obtain⟨p1,p2⟩:=h6 j (qg σ row) (by rw[Xa,hr];rfl);rw[Ux]at p1;exact⟨p1,p2.wG h (Jd hk hr)⟩
theorem kG.wR(h:pZ K η' σ){w:World}{g:Nat}{o:Obj}{es:Nat}{rs:List (List DC)}(d:kG K w g o es rs):kG η' w g o es (XL σ rs):=by
 refine⟨fun i j es' rows hk=>?_,fun i j i' j' x x' v v' k h1 h2 h3 h4 h5 h6=>?_⟩
 .rw[V8]at hk;cases hq:Yl rs i j with
  |none=>rw[hq]at hk;cases hk
  |some x=>
   rw[hq]at hk;obtain⟨es0,Mn⟩:=x;simp only[Option.map_some,zj,yF]at hk;obtain⟨rfl,rfl⟩:=hk;obtain⟨v,g1,g2,g3⟩:=d.sat i j _ _ hq;exact⟨v,g1,g2.wR h,g3⟩
 .rw[V8]at h1 h2;obtain⟨y,hy,_⟩:=zB.1 h1;obtain⟨y',hy',_⟩:=zB.1 h2;exact d.ne i j i' j' y y' v v' k hy hy' h3 h4 h5 h6
theorem Mp:∀{row:List DC} {j:Nat} {c:DC},XC k row=true->row[j]?=some c->rS k c=true
 | [],j,c,_,h=>by simp at h
 |d::cs,0,c,hk,h=>by simp only[XC,zk]at hk;simp at h;subst h;exact hk.1
 |d::cs,j+1,c,hk,h=>by simp only[XC,zk]at hk;simp at h;exact Mp hk.2 h
theorem Mq:∀{rs:List (List DC)} {j:Nat} {c:List DC},YC k rs=true->rs[j]?=some c->XC k c=true
 | [],j,c,_,h=>by simp at h
 |d::cs,0,c,hk,h=>by simp only[YC,zk]at hk;simp at h;subst h;exact hk.1
 |d::cs,j+1,c,hk,h=>by simp only[YC,zk]at hk;simp at h;exact Mq hk.2 h
theorem Za2{rs:List (List DC)}{i j es:Nat}{rows:List (List SV)}(hk:YC k rs=true)(h:Yl rs i j=some (es,rows)):Yw k rows=true:=by
 unfold Yl at h;split at h
 .rename_i row hr;split at h
  .rename_i es' rows' hc;simp only[zj,yF]at h;obtain⟨rfl,rfl⟩:=h;exact Mp (Mq hk hr) hc
  cases h
 cases h
theorem Ms:∀{r:List DC},XC k r=true->ZO k (r.map ZT)=true
 | [],_=>rfl
 |c::cs,h=>by
  simp only[XC,zk]at h;simp only[zI,ZO,Ms h.2,zG];cases c with
  |v s=>exact h.1
  |wZ es rows=>rfl
theorem JB:∀{r:List (List DC)},YC k r=true->Yw k (ZB r)=true
 | [],_=>rfl
 |c::cs,h=>by
  simp only[YC,zk]at h;have:=JB h.2;unfold ZB at this⊢;simp only[zI,Yw,Ms h.1,this,zD]
theorem kG.wG(h:dL K η' σ k){w:World}{g:Nat}{o:Obj}{es:Nat}{rs:List (List DC)}(hk:YC k rs=true)(d:kG K w g o es (XL σ rs)):kG η' w g o es rs:=by
 refine⟨fun i j es' rows dA=>?_,fun i j i' j' x x' v v' k h1 h2 h3 h4 h5 h6=>?_⟩
 .obtain⟨v,g1,g2,g3⟩:=d.sat i j es' (Xo σ rows) (by rw[V8,dA];rfl);exact⟨v,g1,g2.wG h (Za2 hk dA),g3⟩
 exact d.ne i j i' j' _ _ v v' k (by rw[V8,h1];rfl) (by rw[V8,h2];rfl) h3 h4 h5 h6
theorem qt.wR(h:pZ K η' σ){w:World}{i es:Nat}{rs:List (List DC)}{x:Option kM}(hx:K.get (.loc i)=some x)(d:qt K w (.loc i) es rs):qt η' w (.loc (σ i)) es (XL σ rs):=by
 intro e he;have:=h.get (b:= .loc i) hx;rw[show η'.get (qo σ (.loc i))=some (some e)from he]at this;injection this with this;subst this;obtain⟨h1,h2⟩:=d e hx;exact⟨h1,fun o ho=>(h2 o ho).wR h⟩
theorem uZ.wR(h:pZ K η' σ){w:World}{own:Bool}{i:Nat}{hp:Hp}(d:uZ K w own (.loc i) hp):uZ η' w own (.loc (σ i)) (wJ σ hp):=by
 have hg:∀{x},K.get (.loc i)=some x->η'.get (.loc (σ i))=some x:=fun hx=>h.get (b:= .loc i) hx;cases hp with
 |box row=>
  simp only[uZ,wJ]at d⊢;obtain⟨e,arr,T,fz,h1,h2,h3,h4⟩:=d;exact⟨e,arr,T,fz,hg h1,h2,h3,h4.wR h⟩
 |rows es rs=>
  simp only[uZ,wJ]at d⊢;rcases d with⟨h1,rfl⟩|⟨e,arr,T,fz,h1,h2,h3,h4⟩
  exact .inl ⟨hg h1,rfl⟩
  .refine .inr ⟨e,arr,T,fz,hg h1,h2,by rw[Yd];exact h3,fun j row hr=>?_⟩;rw[Xa]at hr;cases hq:rs[j]? with
   |none=>rw[hq]at hr;cases hr
   |some q=>
    rw[hq]at hr;simp only[Option.map_some,zj]at hr;subst hr;rw[Ux];exact⟨(h4 j q hq).1,(h4 j q hq).2.wR h⟩
 |ak vs=>
  simp only[uZ,wJ]at d⊢;obtain⟨e,h1,h2⟩:=d;exact⟨e,hg h1,h2⟩
 |qM s p=>
  simp only[uZ,wJ]at d⊢;obtain⟨e,h1,h2⟩:=d;exact⟨e,hg h1,h2⟩
 |mp rs=>
  simp only[uZ,wJ]at d⊢;obtain⟨e,es,h1,h2,h3,h4,h5⟩:=d;refine⟨e,es,hg h1,h2,h3,by rw[Yd];exact h4,fun j row hr=>?_⟩;rw[Xa]at hr;cases hq:rs[j]? with
  |none=>rw[hq]at hr;cases hr
  |some q=>
   rw[hq]at hr;simp only[Option.map_some,zj]at hr;subst hr;obtain⟨en,g1,g2,g3⟩:=h5 j q hq;exact⟨en,g1,g2,g3.wR h⟩
 |eP f=>
  simp only[uZ,wJ]at d⊢;obtain⟨e,h1,h2⟩:=d;exact⟨e,hg h1,h2⟩
 |lp st li fr=>
  simp only[uZ,wJ]at d⊢;obtain⟨e,r,h1,h2,h3,h4⟩:=d;exact⟨e,r,hg h1,h2,h3,h4.wR h⟩
 |jJ T t l=>
  simp only[uZ,wJ]at d⊢;obtain⟨e,h1,h2⟩:=d;exact⟨e,hg h1,h2⟩
 |deep mp es rs=>
  cases mp
  .simp only[uZ,wJ,Ud]at d⊢;obtain⟨d1,d2⟩:=d;obtain⟨x,hx,_⟩:=d1.pX;refine⟨?_,d2.wR h hx⟩;rcases d1 with⟨h1,h0⟩|⟨e,arr,T,fz,h1,h2,h3,h4⟩
   exact .inl ⟨hg h1,by rw[h0];rfl⟩
   .refine .inr ⟨e,arr,T,fz,hg h1,h2,by rw[Yd];exact h3,fun j row hr=>?_⟩;rw[Xa]at hr;cases hq:(ZB rs)[j]? with
    |none=>rw[hq]at hr;cases hr
    |some q=>
     rw[hq]at hr;simp only[Option.map_some,zj]at hr;subst hr;rw[Ux];exact⟨(h4 j q hq).1,(h4 j q hq).2.wR h⟩
  .simp only[uZ,wJ,Ud]at d⊢;obtain⟨⟨d1,d0⟩,d2⟩:=d;obtain⟨x,hx,_⟩:=d1.pX;refine⟨⟨?_,d0⟩,d2.wR h hx⟩;obtain⟨e,es,h1,h2,h3,h4,h5⟩:=d1;refine⟨e,es,hg h1,h2,h3,by rw[Yd];exact h4,fun j row hr=>?_⟩;rw[Xa]at hr;cases hq:(ZB rs)[j]? with
   |none=>rw[hq]at hr;cases hr
   |some q=>
    rw[hq]at hr;simp only[Option.map_some,zj]at hr;subst hr;obtain⟨en,g1,g2,g3⟩:=h5 j q hq;exact⟨en,g1,g2,g3.wR h⟩
theorem qm.wG(h:dL K η' σ k){w:World}{own:Bool}{b b':qP}(hg:∀{x},K.get b=some x->η'.get b'=some x){es:Nat}{rs:List (List SV)}(hk:Yw k rs=true)(d:qm K w own b es (Xo σ rs)):qm η' w own b' es rs:=by
 rcases d with⟨h1,h0⟩|⟨e,arr,T,fz,h1,h2,h3,h4⟩
 .refine .inl ⟨hg h1,?_⟩;have:=ze List.length h0;rw[Yd]at this;exact zJ.1 this
 .refine .inr ⟨e,arr,T,fz,hg h1,h2,by rw[Yd]at h3;exact h3,fun j row hr=>?_⟩;obtain⟨p1,p2⟩:=h4 j (qg σ row) (by rw[Xa,hr];rfl);rw[Ux]at p1;exact⟨p1,p2.wG h (Jd hk hr)⟩
theorem eF.wG(h:dL K η' σ k){w:World}{b b':qP}(hg:∀{x},K.get b=some x->η'.get b'=some x){rs:List (List SV)}(hk:Yw k rs=true)(d:eF K w b (Xo σ rs)):eF η' w b' rs:=by
 obtain⟨e,es,h1,h2,h3,h4,h5⟩:=d;refine⟨e,es,hg h1,h2,h3,by rw[Yd]at h4;exact h4,fun j row hr=>?_⟩;obtain⟨en,g1,g2,g3⟩:=h5 j (qg σ row) (by rw[Xa,hr];rfl);exact⟨en,g1,g2,g3.wG h (Jd hk hr)⟩
theorem qt.wG(h:dL K η' σ k){w:World}{b b':qP}(hg:∀{x},K.get b=some x->η'.get b'=some x){es:Nat}{rs:List (List DC)}{x:Option kM}(hx:K.get b=some x)(hk:YC k rs=true)(d:qt K w b es (XL σ rs)):qt η' w b' es rs:=by
 intro e he;have:=hg hx;rw[he]at this;injection this with this;subst this;obtain⟨h1,h2⟩:=d e hx;exact⟨h1,fun o ho=>(h2 o ho).wG h hk⟩
theorem uZ.wG(h:dL K η' σ k){w:World}{own:Bool}{i:Nat}(hi:i<k){hp:Hp}(hk:Zi k hp=true)(d:uZ K w own (.loc (σ i)) (wJ σ hp)):uZ η' w own (.loc i) hp:=by
 have hg:∀{x},K.get (.loc (σ i))=some x->η'.get (.loc i)=some x:=fun hx=>h i _ hi hx;cases hp with
 |box row=>
  simp only[uZ,wJ]at d⊢;obtain⟨e,arr,T,fz,h1,h2,h3,h4⟩:=d;exact⟨e,arr,T,fz,hg h1,h2,h3,h4.wG h hk⟩
 |rows es rs=>
  simp only[uZ,wJ]at d⊢;rcases d with⟨h1,h0⟩|⟨e,arr,T,fz,h1,h2,h3,h4⟩
  .refine .inl ⟨hg h1,?_⟩;have:=ze List.length h0;rw[Yd]at this;exact zJ.1 this
  .refine .inr ⟨e,arr,T,fz,hg h1,h2,by rw[Yd]at h3;exact h3,fun j row hr=>?_⟩;obtain⟨p1,p2⟩:=h4 j (qg σ row) (by rw[Xa,hr];rfl);rw[Ux]at p1;exact⟨p1,p2.wG h (Jd hk hr)⟩
 |ak vs=>
  simp only[uZ,wJ]at d⊢;obtain⟨e,h1,h2⟩:=d;exact⟨e,hg h1,h2⟩
 |qM s p=>
  simp only[uZ,wJ]at d⊢;obtain⟨e,h1,h2⟩:=d;exact⟨e,hg h1,h2⟩
 |mp rs=>
  simp only[uZ,wJ]at d⊢;obtain⟨e,es,h1,h2,h3,h4,h5⟩:=d;refine⟨e,es,hg h1,h2,h3,by rw[Yd]at h4;exact h4,fun j row hr=>?_⟩;obtain⟨en,g1,g2,g3⟩:=h5 j (qg σ row) (by rw[Xa,hr];rfl);exact⟨en,g1,g2,g3.wG h (Jd hk hr)⟩
 |eP f=>
  simp only[uZ,wJ]at d⊢;obtain⟨e,h1,h2⟩:=d;exact⟨e,hg h1,h2⟩
 |lp st li fr=>
  simp only[uZ,wJ]at d⊢;obtain⟨e,r,h1,h2,h3,h4⟩:=d;exact⟨e,r,hg h1,h2,h3,h4.wG h hk⟩
 |jJ T t l=>
  simp only[uZ,wJ]at d⊢;obtain⟨e,h1,h2⟩:=d;exact⟨e,hg h1,h2⟩
 |deep mp es rs=>
  cases mp
  .simp only[uZ,wJ,Ud]at d⊢;obtain⟨d1,d2⟩:=d;obtain⟨x,hx,_⟩:=d1.pX;exact⟨d1.wG h hg (JB hk),d2.wG h hg hx hk⟩
  .simp only[uZ,wJ,Ud]at d⊢;obtain⟨⟨d1,d0⟩,d2⟩:=d;obtain⟨x,hx,_⟩:=d1.pX;exact⟨⟨d1.wG h hg (JB hk),d0⟩,d2.wG h hg hx hk⟩
end
theorem wK.plain{K η':Env}{arr:Array Value}{o:Nat}{row:List SV}(hp:YM row=true)(d:wK K arr o row):wK η' arr o row:=
 wK.wG (σ:=id) (k:=0) (fun i x hi=>by omega) (ZF 0 hp) (by rw[ZN _ hp];exact d)
theorem Je:∀{rs:List (List SV)} {i:Nat} {row:List SV},Zp rs=true->rs[i]?=some row->YM row=true
 | [],i,row,_,h=>by simp at h
 |r::rs,0,row,hp,h=>by simp only[Zp,zk]at hp;simp at h;subst h;exact hp.1
 |r::rs,i+1,row,hp,h=>by simp only[Zp,zk]at hp;simp at h;exact Je hp.2 h
theorem uZ.plain{K η':Env}{w:World}{own:Bool}{g:Nat}{h:Hp}(d:uZ K w own (.qf g) h)(hp:V1 h=true):uZ η' w own (.qf g) h:=by
 cases h with
 |box row=>
  simp only[V1]at hp;simp only[uZ]at d⊢;obtain⟨e,arr,T,fz,h1,h2,h3,h4⟩:=d;exact⟨e,arr,T,fz,h1,h2,h3,h4.plain hp⟩
 |rows es rs=>
  simp only[V1]at hp;simp only[uZ]at d⊢;rcases d with⟨h1,h2⟩|⟨e,arr,T,fz,h1,h2,h3,h4⟩
  exact .inl ⟨h1,h2⟩;exact .inr ⟨e,arr,T,fz,h1,h2,h3,fun i row hr=>⟨(h4 i row hr).1,(h4 i row hr).2.plain (Je hp hr)⟩⟩
 |mp rs=>
  simp only[V1]at hp;simp only[uZ]at d⊢;obtain⟨e,es,h1,h2,h3,h4,h5⟩:=d;exact⟨e,es,h1,h2,h3,h4,fun i row hr=>let⟨en,g1,g2,g3⟩:=h5 i row hr;⟨en,g1,g2,w6.wG (σ:=id) (k:=0) (fun i x hi=>by omega) (ZF 0 (Je hp hr)) (by rw[ZN _ (Je hp hr)];exact g3)⟩⟩
 |qM s p=>exact d
 |ak vs=>exact d
 |eP f=>exact d
 |lp st li fr=>
  simp only[V1]at hp;simp only[uZ]at d⊢;obtain⟨e,r,h1,h2,h3,h4⟩:=d;exact⟨e,r,h1,h2,h3,gG.wG (σ:=id) (k:=0) (fun i x hi=>by omega) (Wa 0 hp) (by rw[CD _ hp];exact h4)⟩
 |jJ T t l=>exact d
 |deep mp es rs=>
  simp only[V1]at hp;have hb:=Jp 0 hp;have hB:dL K η' id 0:=fun i x hi=>by omega
  have e1:XL id rs=rs:=VH id hp;have hg:∀{x},K.get (.qf g)=some x->η'.get (.qf g)=some x:=fun hx=>hx;rw[<-e1]at d;cases mp
  .simp only[uZ,Ud]at d⊢;obtain⟨d1,d2⟩:=d;obtain⟨x,hx,_⟩:=d1.pX;exact⟨d1.wG hB hg (JB hb),d2.wG hB hg hx hb⟩
  .simp only[uZ,Ud]at d⊢;obtain⟨⟨d1,d0⟩,d2⟩:=d;obtain⟨x,hx,_⟩:=d1.pX;exact⟨⟨d1.wG hB hg (JB hb),d0⟩,d2.wG hB hg hx hb⟩
def Yt(K:Env)(w:World)(O:w9):Nat->Prop:=fun g=> ∃i h,wu i O=some h/\wq K w (.loc i) h g
theorem aD{σ:Nat->Nat}{w:World}{g k:Nat}{h:Hp}:wZ w g (wJ σ h) k<->wZ w g h k:=by
 cases h with
 |deep mp es rs=>
  simp only[wJ,wZ];constructor
  .rintro⟨o,i,j,x,v,h1,h2,h3,h4⟩;rw[V8]at h2;obtain⟨y,hy,_⟩:=zB.1 h2;exact⟨o,i,j,y,v,h1,hy,h3,h4⟩
  .rintro⟨o,i,j,x,v,h1,h2,h3,h4⟩;exact⟨o,i,j,_,v,h1,by rw[V8,h2];rfl,h3,h4⟩
 |_=>exact xK
theorem wq.wR{σ:Nat->Nat}{K η':Env}{w:World}{i k:Nat}{h:Hp}(hg:∀x,K[i]?=some x->η'[σ i]?=some x)(f:wq K w (.loc i) h k):wq η' w (.loc (σ i)) (wJ σ h) k:=
 let⟨e,h1,h2⟩:=f;⟨e,hg _ h1,h2.imp id aD.2⟩
theorem wq.wG{σ:Nat->Nat}{K η':Env}{w:World}{i k:Nat}{h:Hp}(hg:∀x,η'[σ i]?=some x->K[i]?=some x)(f:wq η' w (.loc (σ i)) (wJ σ h) k):wq K w (.loc i) h k:=
 let⟨e,h1,h2⟩:=f;⟨e,hg _ h1,h2.imp id aD.1⟩
def jZ(S:w9):List (qP×Hp):=S.map fun p=>(qP.loc p.1,p.2)
structure uX(P:Program)(T:kE)(f:FuncId)(k:Nat)(args:List SV)(O S:w9)(Q:SV->w9->Nat->Prop):Prop where
 out:∀(M:Mx) (vs:List Value),M.P=P->M.C.T=T->M.F=Yt M.η0 M.w0 O->M.C.S=jZ S->uY M M.η0 M.w0 O k->w6 M.η0 args vs->
  jY M.P f ⟨vs⟩ M.w0 fun v w'=> ∃r O' w8 η',Q r O' w8/\M.η0<+:η'/\uY M η' w' O' w8/\Den η' r v
def UY:Nat->List SV->Fr
 |_,[]=>[]
 |n,v::vs=>(n,v)::UY (n+1) vs
def Mt(p:Prop)(_:wW)(k:fP):fP:=fun K=>wm p (k K)
def Mu(rs:List (List SV))(i:Nat)(_:List SV->wW)(f:List SV->fP):fP:=fun K=>GET rs i fun row=>lU row fun row=>f row K
def rT:fP:=fun _=>qc "result"
noncomputable def wW.gv (r:wW):fP:=
 wW.rec (motive:=fun _=>fP) Hw (fun _ _=>rT) (fun _ _ _=>rT) (fun _ _ _=>rT) Mt Mu (fun _ _ _ _ _=>rT) (fun _ _ _ _ _=>rT) (fun _ _ _ _ _=>rT) (fun _ _ _ _=>rT) (fun _ _ _ _=>rT) rT r
abbrev mK:=(List SV->Prop)->Prop
def Zl6:mK:=fun K=>K []
noncomputable def Gk (C:Cx)(fr:Fr)(O:w9)(v:ResultVar)(_:List ResultVar)(r:mK):mK:=fun K=>match v with
 | .tmp t=>match wu t fr with
   |some v=>r fun vs=>K (v::vs)
   |none=>qc "result"
 | .cell a t=>match wu a fr with
   |some p=>(K0 C.T (Yk C O) t p).gv fun v=>r fun vs=>K (v::vs)
   |none=>qc "result"
noncomputable def nO (C:Cx)(fr:Fr)(O:w9)(l:List ResultVar):mK:=List.rec (motive:=fun _=>mK) Zl6 (Gk C fr O) l
def r7:List SV->SV
 | [v]=>v
 |vs=> .wM vs
structure wh(M:Mx)(O:w9)(nx:Nat)(r:SV)(Q:SV->w9->Nat->Prop):Prop where
 out:∀J w v,uY M J w O nx->Den J r v->∃r' O' w8 η',Q r' O' w8/\M.η0<+:η'/\uY M η' w O' w8/\Den η' r' v
def Gl(M:Mx)(O:w9)(nx:Nat)(Q:SV->w9->Nat->Prop):List SV->Prop
 | [v]=>wh M O nx v Q
 |vs=>wh M O nx (.wM vs) Q
theorem Mv{M:Mx}{O:w9}{nx:Nat}{Q:SV->w9->Nat->Prop}:∀vs,Gl M O nx Q vs=wh M O nx (r7 vs) Q
 | []=>rfl
 | [_]=>rfl
 |_::_::_=>rfl
def K9:List SV->w9->(w9->Prop)->Prop
 | [],O,K=>K O
 |c::l,O,K=>match c with
  | .ptr (.loc j) _ _ _=>match wu j O with
    |some (.eP [])=>mb j O fun O=>K9 l O K
    |_=>qc "put off"
  | .val v=>match l with
    | .ptr (.loc j) _ _ _::l'=>match wu j O with
      |some (.eP f)=>wm (v=nZ f) (mb j O fun O=>K9 l' O K)
      |_=>qc "put off"
    |_=>qc "put off"
  |_=>qc "put off"
def r8(fr:Fr)(O:w9)(K:w9->Prop):Prop:=match wu DS fr with
 |some v=>match v with
  | .eE l=>K9 l O K
  |_=>K O
 |none=>K O
def iR(M:Mx)(res:List ResultVar)(Q:SV->w9->Nat->Prop):Post
 | .normal,fr,O,nx=>r8 fr O fun O=>nO M.C fr O res fun vs=>Gl M O nx Q vs
 | .ret,fr,O,nx=>r8 fr O fun O=>nO M.C fr O res fun vs=>Gl M O nx Q vs
 | .exit _,_,_,_=>qc "exit"
section
variable {M:Mx}{J:Env}{w:World}{O:w9}{nx:Nat}
theorem wW.pF:∀{r:wW} {K:SV->Prop},r.gv K->∃v,(∀O nx,r.ok O nx v O nx)/\K v
 | .val v,K,h=>by simp only[wW.gv,Hw,Yz]at h;exact⟨v,fun _ _=>⟨rfl,rfl,rfl⟩,h⟩
 | .need p k,K,h=>by
   simp only[wW.gv,Mt]at h;obtain⟨v,h1,h2⟩:=wW.pF h.k;exact⟨v,fun O nx=>⟨h.p,h1 O nx⟩,h2⟩
 | .get rs i f,K,h=>by
   simp only[wW.gv,Mu,JX]at h;obtain⟨row,hr,h⟩:=h.out;obtain⟨v,h1,h2⟩:=wW.pF h;exact⟨v,fun O nx=>⟨row,hr,h1 O nx⟩,h2⟩
 | .new _ _,_,h=>h.out.elim
 | .fu _ _ _,_,h=>h.out.elim
 | .dG _ _ _,_,h=>h.out.elim
 | .take _ _ _ _,_,h=>h.out.elim
 | .dZ _ _ _ _,_,h=>h.out.elim
 | .find _ _ _,_,h=>h.out.elim
 | .findD _ _ _,_,h=>h.out.elim
 | .ite _ _ _,_,h=>h.out.elim
 | .fail,_,h=>h.out.elim
def Ka(tmps:Array Value):ResultVar->Sem Value
 | .tmp t=>pure (tmps.getD t undef)
 | .cell c t=>do loadVar t (<-asAddr (tmps.getD c undef))
theorem ZcL(fn:Func)(tmps:Array Value):results fn tmps=(do let vs<-fn.results.mapM (Ka tmps);pure (if h:vs.size=1 then vs[0]else .tuple vs)):=by
 have:(fun x:ResultVar=>match x with|ResultVar.tmp t=>(pure (tmps.getD t undef):Sem Value)|ResultVar.cell c t=>do loadVar t (<-asAddr (tmps.getD c undef)))=Ka tmps:=by
  funext x;cases x<;>rfl
 rw[<-this]
 rfl
theorem ZcM{P:Program}{w:World}{v:Value}{a:Addr}(h:v= .pointer (some a)):(asAddr v).run P w= .ok a w:=by subst h;rfl
theorem CG(hT:qa M.P M.C.T)(H:uY M J w O nx){a:Act}{fr:Fr}(hf:gI J a fr):∀{res:List ResultVar} {K:List SV->Prop},nO M.C fr O res K->
 ∃cV vs,K cV/\w6 J cV vs/\(res.mapM (Ka a.tmps)).run M.P w= .ok vs w
 | [],K,h=>⟨[],[],h,by simp[w6],rfl⟩
 | .tmp t::r,K,h=>by
   replace h:Gk M.C fr O (.tmp t) r (nO M.C fr O r) K:=h
   simp only[Gk]at h;split at h
   case h_2=>exact h.out.elim
   rename_i v hv;obtain⟨cV,vs,h1,h2,h3⟩:=CG hT H hf h;refine⟨_,a.tmps.getD t undef::vs,h1,?_,?_⟩;simp only[w6];exact⟨_,_,rfl,hf t v hv,h2⟩;simp only[vT,Sem.run_bind,Ka,Sem.run_pure,Result.andThen_ok,h3]
 | .cell c t::r,K,h=>by
   replace h:Gk M.C fr O (.cell c t) r (nO M.C fr O r) K:=h
   simp only[Gk]at h;split at h
   case h_2=>exact h.out.elim
   rename_i p hp;obtain⟨v,hl,h⟩:=wW.pF h;obtain⟨cV,vs,h1,h2,h3⟩:=CG hT H hf h;obtain⟨_,_,ad,u,h4,h5,h6⟩:=Np hT H (hf c p hp) (hl O nx);refine⟨_,u::vs,h1,?_,?_⟩;simp only[w6];exact⟨_,_,rfl,h6,h2⟩;simp only[vT,Sem.run_bind,Ka,ZcM h4,Result.andThen_ok,h5,h3,Sem.run_pure]
end
theorem HP{J:Env}:∀{n:Nat} {args:List SV} {vs:List Value} {t:Nat} {sv:SV},w6 J args vs->wu t (UY n args)=some sv->∃v,n<=t/\vs[t-n]?=some v/\Den J sv v
 |n,[],vs,t,sv,_,h=>by simp[UY,wu]at h
 |n,a::args,vs,t,sv,hd,h=>by
  simp only[w6]at hd;obtain⟨u,us,rfl,h1,h2⟩:=hd;simp only[UY,Za]at h;split at h
  .rename_i e;subst e;injection h with h;subst h
   exact⟨u,zo _,by simp,h1⟩
  .obtain⟨v,h3,h4,h5⟩:=HP h2 h;refine⟨v,by omega,?_,h5⟩;rw[show t-n=(t-(n+1))+1 by omega];simpa using h4
theorem uY.drop{M:Mx}{J:Env}{w w':World}{O:w9}{nx:Nat}(H:uY M J w O nx){j:Nat}{h0:Hp}(hj:wu j O=some h0){e:kM}(he:J[j]?=some (some e))(qY:∀k, ¬wq J w (.loc j) h0 k->w'.heap[k]?=w.heap[k]?)(hsz:w'.heap.size=w.heap.size)
 (ho:w'.os=w.os) (ht:w'.tape=w.tape) (hp:w'.output=w.output) (eR:w.drawn<=w'.drawn):uY M J w' (qy j O) nx:=by
 have fi:wq J w (.loc j) h0 e.g:=wq.own he
 have back:∀{i h},wu i (qy j O)=some h->i≠j/\wu i O=some h:=fun{i h} hi=>by
  have hne:i≠j:=fun e=>by subst e;rw[Yh]at hi;cases hi
  exact⟨hne,by rw[<-XZ j O i hne];exact hi⟩
 have keep:∀{i h},wu i (qy j O)=some h->∀k,wq J w (.loc i) h k->w'.heap[k]?=w.heap[k]?:=fun{i h} hi k f=>qY k fun hk=>H.own.2 i j h h0 k (back hi).2 hj (back hi).1 f hk;have bk:∀{i h},wu i (qy j O)=some h->∀k,wq J w' (.loc i) h k->wq J w (.loc i) h k:=fun{i h} hi k f=>H.stands zw (back hi).2 (keep hi) f
 refine⟨H.pre,H.len,⟨fun i h hi=>⟨(H.own.1 i h (back hi).2).1.keep (keep hi),fun k f=>(H.own.1 i h (back hi).2).2 k (bk hi k f)⟩,fun i i' h h' k hi hi' hne f f'=>H.own.2 i i' h h' k (back hi).2 (back hi').2 hne (bk hi k f) (bk hi' k f')⟩,
  ⟨ho.trans H.fr.os,ht.trans H.fr.tape,hp.trans H.fr.output,zP H.fr.drawn eR,by rw[hsz];exact H.fr.size,fun k hk hF=>?_⟩,H.qN⟩
 rw[qY k ?_];exact H.fr.block k hk hF
 .intro hke;rcases(H.own.1 j h0 hj).2 k hke with h|h
  exact hF h;omega
theorem Zh1{f f':List Nat}(h:nZ f=nZ f'):f=f':=by
 unfold nZ at h;simp only[Value.tuple.injEq]at h;exact(List.map_inj_right (fun a b hab=>by simp only[Value.int.injEq,xV]at hab;omega)).1 (ze Array.toList h)
theorem Mw{F:Fence}{P:Program}{fn:Func}{tmps:Array Value}{R:Ending->World->Prop}{ds:List Deferred}:∀{f:List Nat} {w:World},(∀n∈f,w.heap[n]?=some (.deferred (some [])))->f.Nodup->
 (∀w',(∀k,k∉f->w'.heap[k]?=w.heap[k]?)->w'.heap.size=w.heap.size->w'.os=w.os->w'.tape=w.tape->w'.output=w.output->w'.drawn=w.drawn->LeavesInM F 0 P fn tmps R ds .returning w')->LeavesInM F 0 P fn tmps R (iA f++ds) .returning w
 | [],w,_,_,h=>h w (fun _ _=>rfl) rfl rfl rfl rfl rfl
 |n::f,w,hs,hn,h=>by
  have hn':=vq.1 hn;have h6:=hs n (y5 ..);refine⟨(fun h=>by cases h), .inl ⟨n,w.putObj n (.deferred none),rfl,run_takeDeferred h6,?_⟩⟩;refine Mw (fun m hm=>?_) hn'.2 fun w' h1 h2 h3 h4 h5 h6=>h w' (fun k hk=>?_) (h2.trans World.putObj_size) h3 h4 h5 h6
  .rw[World.putObj_heap_other (by rintro rfl;exact hn'.1 hm)];exact hs m (zV _ hm)
  .rw[h1 k fun hm=>hk (zV _ hm)];exact World.putObj_heap_other (by rintro rfl;exact hk (y5 ..))
theorem My{M:Mx}{F:Fence}{P:Program}{fn:Func}{tmps:Array Value}{R:Ending->World->Prop}{J:Env}{nx:Nat}:∀(m:Nat) {l:List SV} {ds:List Deferred} {O:w9} {w:World} {K:w9->Prop},l.length<=m->fe J l ds->uY M J w O nx->K9 l O K->
 (∀w' O',uY M J w' O' nx->K O'->LeavesInM F 0 P fn tmps R [] .returning w')->LeavesInM F 0 P fn tmps R ds .returning w
 |_,[],ds,O,w,K,_,hd,H,h,hK=>by
  simp only[fe]at hd;subst hd;exact hK w O H h
 |0,_::_,ds,O,w,K,hm,hd,H,h,hK=>by simp at hm
 |m+1,c::l,ds,O,w,K,hm,hd,H,h,hK=>by
  have last:∀{j:Nat} {f:List Nat} {e:kM} {r:List Deferred} {l':List SV},l'.length<=m->wu j O=some (.eP f)->J[j]?=some (some e)->fe J l' r->K9 l' (qy j O) K->LeavesInM F 0 P fn tmps R (iA f++{target:= .collected e.g,args:= #[]}::r) .returning w:=by
   intro j f e r l' hm' hj h1 h3 h;have hs:=(H.own.1 j _ hj).1;simp only[uZ]at hs;obtain⟨e',h4,h5,h6,h7,h8⟩:=hs;rw[show J.get (.loc j)=some (some e)from h1]at h4;injection h4 with h4;injection h4 with h4;subst h4;have h8:=vq.1 h8;refine Mw h7 h8.2 fun w1 g1 g2 g3 g4 g5 g6=>?_;have h6':w1.heap[e.g]?=some (.deferred (some [])):=(g1 _ h8.1).trans h6;refine⟨(fun h=>by cases h), .inl ⟨e.g,w1.putObj e.g (.deferred none),rfl,run_takeDeferred h6',?_⟩⟩;refine My m hm' h3 (H.drop hj h1 (fun k hk=>?_) (World.putObj_size.trans g2) g3 g4 g5 (by show w.drawn<=w1.drawn;omega)) h hK;rw[World.putObj_heap_other fun e'=>hk ⟨e,h1, .inl e'.symm⟩];exact g1 k fun hm=>hk ⟨e,h1, .inr hm⟩
  simp only[List.length_cons]at hm;unfold K9 at h;split at h
  .rename_i j _ _ _;split at h
   case h_2=>exact h.out.elim
   rename_i hj;rw[XY]at h;simp only[fe]at hd;obtain⟨e,r,h1,rfl,h3⟩:=hd;exact last (f:=[]) (by omega) hj h1 h3 h
  .rename_i v;split at h
   case h_2=>exact h.out.elim
   rename_i j _ _ _ l';split at h
   case h_2=>exact h.out.elim
   rename_i f hj;obtain⟨hv,h⟩:=h;rw[XY]at h;simp only[fe]at hd;obtain⟨f',r',h1,rfl,e,r,h2,rfl,h3⟩:=hd;obtain rfl:=Zh1 (hv.symm.trans h1);exact last (by simp only[List.length_cons]at hm;omega) hj h2 h3 h
  exact h.out.elim
theorem Zew{M:Mx}{F:Fence}{P:Program}{fn:Func}{tmps:Array Value}{R:Ending->World->Prop}{J:Env}{nx:Nat}{fr:Fr}{ds:List Deferred}{O:w9}{w:World}{K:w9->Prop}(hd:jf J ds (wu DS fr))(H:uY M J w O nx)(h:r8 fr O K)
 (hK:∀w' O',uY M J w' O' nx->K O'->LeavesInM F 0 P fn tmps R [] .returning w'):LeavesInM F 0 P fn tmps R ds .returning w:=by
 unfold r8 at h;split at h
 .rename_i v hv;rw[hv]at hd;split at h
  exact My _ (zo _) hd H h hK
  .rename_i hnd
   have:ds=[]:=by
    cases v<;>first|exact hd|exact(hnd _ rfl).elim
   subst this;exact hK w O H h
 .rename_i hv;rw[hv]at hd;have hd:ds=[]:=hd;subst hd;exact hK w O H h
theorem Zex{M:Mx}(hT:qa M.P M.C.T){fn:Func}{res:List ResultVar}(hres:fn.results=res.toArray){K:SV->w9->Nat->Prop}{J:Env}{fr:Fr}{O':w9}{nx:Nat}{a:Act}{w':World}(H':uY M J w' O' nx)(hf:gI J a fr)
 (hr:nO M.C fr O' res fun vs=>K (r7 vs) O' nx):∃v r,(results fn a.tmps).run M.P w'= .ok v w'/\Den J r v/\K r O' nx:=by
 obtain⟨cV,tr,h1,h2,h3⟩:=CG hT H' hf hr
 have hrun:(results fn a.tmps).run M.P w'= .ok (if h:tr.length=1 then tr[0]'(by omega)else .tuple ⟨tr⟩) w':=by
  have hh:(res.toArray.mapM (Ka a.tmps)).run M.P w'= .ok ⟨tr⟩ w':=by
   rw[uE];simp only[Sem.run_map,h3,Result.andThen_ok]
  rw[ZcL,hres];simp only[Sem.run_bind,hh,Result.andThen_ok,Sem.run_pure]
  rfl
 have eU:Den J (r7 cV) (if h:tr.length=1 then tr[0]'(by omega)else .tuple ⟨tr⟩):=by
  have hl:=ZU h2
  match cV,h2,hl with
  | [],h2,hl=>
    simp only[w6]at h2;subst h2;simp only[r7,Den,w6];exact⟨[],by simp,rfl⟩
  | [s],h2,hl=>
    simp only[w6]at h2;obtain⟨u,us,rfl,h4,rfl⟩:=h2;simpa[r7]using h4
  |s::s'::r,h2,hl=>
   simp only[List.length_cons]at hl;rw[yK (by omega)];simp only[r7,Den];exact⟨tr,rfl,h2⟩
 exact⟨_,_,hrun,eU,h1⟩
theorem CH{M:Mx}(hT:qa M.P M.C.T){fn:Func}{res:List ResultVar}(hres:fn.results=res.toArray){K:SV->w9->Nat->Prop}{J:Env}{fr:Fr}{O:w9}{nx:Nat}{a:Act}{w:World}(hm:wz M J fr O nx a w)
 (h:r8 fr O fun O=>nO M.C fr O res fun vs=>K (r7 vs) O nx) {R:Ending->World->Prop} (hR:∀w' O' v r,uY M J w' O' nx->Den J r v->K r O' nx->R (.returned v) w'):LeavesInM Fence.wide 0 M.P fn a.tmps R a.defers .returning w:=by
 refine Zew hm.defers hm.heap h fun w' O' H' hr=>?_;obtain⟨v,r,h1,h2,h3⟩:=Zex hT hres H' hm.frame hr;exact⟨_,h1,hR w' O' _ _ H' h2 h3⟩
theorem Zey{n:Nat}{args:List SV}{t:Nat}{v:SV}(h:wu t (UY n args)=some v):n<=t/\t<n+args.length:=by
 induction args generalizing n with
 |nil=>simp[UY,wu]at h
 |cons a l ih=>
  simp only[UY,Za]at h;split at h
  rename_i e;subst e;simp;have:=ih h;simp only[List.length_cons];omega
theorem CI{J:Env}{args:List SV}(h:args.length<=DS):jf J [] (wu DS (UY 0 args)):=by
 cases hv:wu DS (UY 0 args)with
 |none=>exact rfl
 |some v=>have:=Zey hv;omega
structure cz(G:World->Prop)(P:Program)(T:kE)(f:FuncId)(k:Nat)(args:List SV)(O S:w9)(Q:SV->w9->Nat->Prop):Prop where
 out:∀(M:Mx) (vs:List Value),M.P=P->M.C.T=T->M.F=Yt M.η0 M.w0 O->M.C.S=jZ S->uY M M.η0 M.w0 O k->w6 M.η0 args vs->G M.w0->
  jY M.P f ⟨vs⟩ M.w0 fun v w'=> ∃r O' w8 η',Q r O' w8/\M.η0<+:η'/\uY M η' w' O' w8/\Den η' r v
theorem uX.eX{G:World->Prop}{P:Program}{T:kE}{f g:FuncId}{k:Nat}{args:List SV}{O S:w9}{Q:SV->w9->Nat->Prop}{fn:Func}{c:Code}(hT:qa P T)(gP:∀args w,(callFunc f args).run P w= .ok (.enter g args) w)
 (hf:P.funcs[g]?=some fn) (hb:fn.body=some c) (N:Nat) (hN:fn.ntmps=N) (hlen:Nat.ble args.length N=true) (res:List ResultVar) (hres:fn.results=res.toArray)
 (h:∀w0 F η0,η0.length=k->G w0->F=Yt η0 w0 O->run ⟨P,⟨T,N,jZ S,none⟩,w0,F,η0,none⟩ c (UY 0 args) O k (iR ⟨P,⟨T,N,jZ S,none⟩,w0,F,η0,none⟩ res Q)) (oc:Nat.ble N DS=true:=by rfl):cz G P T f k args O S Q:=by
 refine⟨fun M vs hP aF hF hS H hd hG=> .inl ⟨g,by rw[hP];exact gP _ _,?_⟩⟩;obtain⟨P',⟨T',N',S',mL⟩,w0,F,η0,r9⟩:=M;simp only at hP aF hF hS H hd hG⊢;subst hP aF hS;have hk:η0.length=k:=H.len;have H':uY ⟨P',⟨T',N,jZ S,none⟩,w0,F,η0,none⟩ η0 w0 O k:=⟨H.pre,H.len,H.own,H.fr,H.qN⟩;have hl:=ZU hd;refine callsIn_wide (n:=0)|>.1 (callsIn_of_wp_marks hf hb trivial ?_)
 have hm:wz ⟨P',⟨T',N,jZ S,none⟩,w0,F,η0,none⟩ η0 (UY 0 args) O k {tmps:=⟨vs⟩++Array.replicate (fn.ntmps-(Array.mk vs).size) undef,defers:=[]} w0:=by
  refine⟨H',?_,zT oc,CI (zP (zT hlen) (zT oc)),(fun l j h=>by cases h),?_⟩
  .have:=zT hlen;simp only[vX,uh,hN,yl];show vs.length+(N-vs.length)=N
   omega
  .intro t sv ht;obtain⟨v,_,h1,h2⟩:=HP hd ht;have hlt:=(zf.1 h1).1;simp only[Nat.sub_zero]at h1 hlt;rw[y6,yd (by simpa using hlt)];have:(Array.mk vs)[t]?=some v:=by simpa using h1
   rw[this];exact h2
 refine Code.wpIn_mono ?_ (Y4 hT c (h w0 F η0 hk hG hF) η0 _ w0 hm)
 have fin:∀{η1:Env} {jR:Fr} {O1:w9} {qq:Nat} {a:Act} {w1:World},wz ⟨P',⟨T',N,jZ S,none⟩,w0,F,η0,none⟩ η1 jR O1 qq a w1->(r8 jR O1 fun O1=>nO ⟨T',N,jZ S,none⟩ jR O1 res fun vs=>Gl ⟨P',⟨T',N,jZ S,none⟩,w0,F,η0,none⟩ O1 qq Q vs)->
  LeavesInM Fence.wide 0 P' fn a.tmps (fun e w'=> ∃v,e= .returned v/\∃r O' w8 η',Q r O' w8/\η0<+:η'/\uY ⟨P',⟨T',N',jZ S,mL⟩,w0,F,η0,r9⟩ η' w' O' w8/\Den η' r v) a.defers .returning w1:=by
  intro η1 jR O1 qq a w1 jh hr;refine CH (M:=⟨P',⟨T',N,jZ S,none⟩,w0,F,η0,none⟩) (K:=fun r O nx=>wh ⟨P',⟨T',N,jZ S,none⟩,w0,F,η0,none⟩ O nx r Q) hT hres jh (by simpa only[Mv]using hr) fun w2 O2 v r H2 hd2 hk=>?_;obtain⟨r',O',w8,η',h5,h6,h7,h8⟩:=hk.out η1 w2 v H2 hd2;exact⟨v,rfl,r',O',w8,η',h5,h6,⟨h7.pre,h7.len,h7.own,h7.fr,h7.qN⟩,h8⟩
 intro e a w hq;cases e with
 |normal=>obtain⟨η1,jR,O1,qq,jh,hq⟩:=hq;exact fin jh hq
 |ret=>obtain⟨η1,jR,O1,qq,jh,hq⟩:=hq;exact fin jh hq
 |exit id=>obtain⟨η1,jR,O1,qq,jh,hq⟩:=hq;exact hq.out.elim
 |goto l=>exact hq.elim
 |panic ch=>obtain⟨_,_,hn,_⟩:=hq;cases hn
 |outgrown=>exact hq.elim
theorem uX.enter{P:Program}{T:kE}{f g:FuncId}{k:Nat}{args:List SV}{O S:w9}{Q:SV->w9->Nat->Prop}{fn:Func}{c:Code}(hT:qa P T)(gP:∀args w,(callFunc f args).run P w= .ok (.enter g args) w)
 (hf:P.funcs[g]?=some fn) (hb:fn.body=some c) (N:Nat) (hN:fn.ntmps=N) (hlen:Nat.ble args.length N=true) (res:List ResultVar) (hres:fn.results=res.toArray)
 (h:∀w0 F η0,η0.length=k->run ⟨P,⟨T,N,jZ S,none⟩,w0,F,η0,none⟩ c (UY 0 args) O k (iR ⟨P,⟨T,N,jZ S,none⟩,w0,F,η0,none⟩ res Q)) (oc:Nat.ble N DS=true:=by rfl):uX P T f k args O S Q:=
 ⟨fun M vs a1 a2 a3 a4 a5 a6=>(uX.eX (G:=fun _=>True) hT gP hf hb N hN hlen res hres (fun w0 F η0 hk _ _=>h w0 F η0 hk) oc).out M vs a1 a2 a3 a4 a5 a6 trivial⟩
theorem IF.tt{J:Type}{A B:J->Prop}{j:J}(h:A j):IF true A B j:=⟨fun _=>h,fun e=>by cases e⟩
theorem IF.ff{J:Type}{A B:J->Prop}{j:J}(h:B j):IF false A B j:=⟨fun e=>(by cases e),fun _=>h⟩
theorem IF.yes{J:Type}{b:Bool}{A B:J->Prop}{j:J}(e:b=true)(h:A j):IF b A B j:=⟨fun _=>h,fun e'=>by rw[e]at e';cases e'⟩
theorem IF.no{J:Type}{b:Bool}{A B:J->Prop}{j:J}(e:b=false)(h:B j):IF b A B j:=⟨fun e'=>(by rw[e]at e';cases e'),fun _=>h⟩
theorem GET.at{rs:List (List SV)}{i:Nat}{K:List SV->Prop}{row:List SV}(h:rs[i]?=some row)(k:K row):GET rs i K:=⟨row,h,k⟩
theorem GET.map{V:Type}{f:V->List SV}{xs:List V}{i:Nat}{K:List SV->Prop}(h:i<xs.length)(k:K (f xs[i])):GET (xs.map f) i K:=⟨f xs[i],by simp[z1 h],k⟩
theorem dI.map{V:Type}[Inhabited V]{f:V->List SV}{xs:List V}{i:Nat}{g:Prop}{K:List SV->Prop}(h:g->i<xs.length)(k:K (f (xs.getD i default))):dI g (xs.map f) i K:=
 ⟨f (xs.getD i default),fun hg=>by have:=h hg;simp[z1 this,List.getD],k⟩
def Zo(L:List Nat)(nx:Nat)(j:Nat):Nat:=if j<L.length then L.getD j 0 else nx+(j-L.length)
def ZY(ks:List Nat):w9->w9
 | []=>[]
 |(i,h)::r=>match ks.any (Nat.beq i)with|true=>ZY ks r|false=>(i,h)::ZY ks r
def kJ(σ:Nat->Nat):w9->w9
 | []=>[]
 |(i,h)::r=>(σ i,wJ σ h)::kJ σ r
def Zd:w9->List Nat
 | []=>[]
 |(i,_)::r=>i::Zd r
theorem Jf{O:w9}{i:Nat}{h:Hp}(hi:wu i O=some h):i∈Zd O:=by
 induction O with
 |nil=>simp[wu]at hi
 |cons p O ih=>
  obtain⟨j,g⟩:=p;rw[Za]at hi;split at hi
  rename_i e;subst e;exact y5 ..;exact zV _ (ih hi)
theorem CJ{ks:List Nat}:∀{O:w9} {i:Nat} {h:Hp},wu i (ZY ks O)=some h->i∉ks/\wu i O=some h
 | [],i,h,hi=>by simp[ZY,wu]at hi
 |(j,g)::O,i,h,hi=>by
  unfold ZY at hi
  have Gm:ks.any (Nat.beq j)=true<->j∈ks:=by
   rw[xL];exact⟨fun⟨x,hx,hb⟩=>by rw[Zs hb];exact hx,fun h=>⟨j,h,Xh j⟩⟩
  split at hi
  .rename_i hk;obtain⟨h1,h2⟩:=CJ hi;refine⟨h1,?_⟩;rw[Za,z7 ?_];exact h2;intro e;subst e;exact h1 (Gm.1 hk)
  .rename_i hk;rw[Za]at hi;split at hi
   .rename_i e;subst e;injection hi with hi;subst hi;refine⟨fun h=>?_,by rw[Za,zh rfl]⟩;rw[Gm.2 h]at hk;cases hk
   .rename_i e;obtain⟨h1,h2⟩:=CJ hi;exact⟨h1,by rw[Za,z7 e];exact h2⟩
theorem Mz{σ:Nat->Nat}:∀{O:w9} {i:Nat} {h:Hp},wu i (kJ σ O)=some h->∃j g,wu j O=some g/\σ j=i/\h=wJ σ g
 | [],i,h,hi=>by simp[kJ,wu]at hi
 |(j,g)::O,i,h,hi=>by
  simp only[kJ]at hi;rw[Za]at hi;split at hi
  .rename_i e;injection hi with hi;exact⟨j,g,by rw[Za,zh rfl],e.symm,hi.symm⟩
  .rename_i e;obtain⟨j1,g1,h1,h2,h3⟩:=Mz hi;have hne:j1≠j:=by intro e';subst e';exact e h2.symm
   exact⟨j1,g1,by rw[Za,z7 hne];exact h1,h2,h3⟩
theorem Jg{V:Type}{xs ys:List (Nat×V)}{i:Nat}{v:V}(h:wu i (xs++ys)=some v):wu i xs=some v\/(wu i xs=none/\wu i ys=some v):=by
 induction xs with
 |nil=>exact .inr ⟨rfl,h⟩
 |cons p xs ih=>
  obtain⟨j,u⟩:=p;rw[List.cons_append,Za]at h;rw[Za];split at h
  rename_i e;rw[zh e];exact .inl h;rename_i e;rw[z7 e];exact ih h
theorem jY.mono{P:Program}{f:FuncId}{args:Array Value}{w:World}{R R':Value->World->Prop}(h:jY P f args w R)(hr:∀v w',R v w'->R' v w'):jY P f args w R':=by
 rcases h with⟨g,h1,h2⟩|⟨v,w',h1,h2⟩
 exact .inl ⟨g,h1,h2.mono fun e w' ⟨v,h3,h4⟩=>⟨v,h3,hr v w' h4⟩⟩;exact .inr ⟨v,w',h1,hr v w' h2⟩
theorem Zh2{S:w9}{b:qP}{h:Hp}(hb:jd b (jZ S)=some h):∃j,b= .loc j/\(j,h)∈S:=by
 induction S with
 |nil=>simp[jZ,jd]at hb
 |cons p S ih=>
  obtain⟨j,g⟩:=p;simp only[jZ,zI,jd]at hb;split at hb
  .rename_i e;injection hb with hb;subst hb;exact⟨j,pW.1 e,y5 ..⟩
  .obtain⟨j',h1,h2⟩:=ih hb;exact⟨j',h1,zV _ h2⟩
theorem CL{M:Mx}{args:List SV}{O:w9}{nx k:Nat}{wX:List SV}{Oc Sc:w9}(L:List Nat)
 (hL:L.length=k) (cZ:∀i∈L,i<nx) (ha:args=qg (Zo L nx) wX) (hb:ZO k wX=true)
 (hO:∀p∈Oc,p.1<k/\wu (Zo L nx p.1) O=some (wJ (Zo L nx) p.2)/\Zi k p.2=true)
 (iS:∀j∈Zd Oc,∀j'∈Zd Oc,Zo L nx j=Zo L nx j'->j=j')
 (hS:∀p∈Sc,p.1<k/\Yk M.C O (.loc (Zo L nx p.1))=some (wJ (Zo L nx) p.2)/\Zi k p.2=true/\Zo L nx p.1∉ (Zd Oc).map (Zo L nx)) {Y:Env} {w:World} {vs:List Value} (H:uY M Y w O nx) (hd:w6 Y args vs):
 ∃Mc:Mx,Mc.P=M.P/\Mc.C.T=M.C.T/\Mc.F=Yt Mc.η0 Mc.w0 Oc/\Mc.C.S=jZ Sc/\Mc.w0=w/\uY Mc Mc.η0 Mc.w0 Oc k/\w6 Mc.η0 wX vs/\
  ∀r O' w8 η' v w',Mc.η0<+:η'->uY Mc η' w' O' w8->Den η' r v->∃η2,Y<+:η2/\uY M η2 w' (kJ (Zo L nx) O'++ZY ((Zd Oc).map (Zo L nx)) O) (nx+(w8-k))/\Den η2 (wR (Zo L nx) r) v:=by
 generalize hσ:Zo L nx=σ at*
 have hσlt:∀j,j<k->∃y,L[j]?=some (σ j)/\σ j<nx/\Y[σ j]?=some y:=by
  intro j hj;have hj':j<L.length:=by omega
  have e:σ j=L[j]:=by rw[<-hσ];simp[Zo,hj',List.getD]
  have hlt:σ j<nx:=by rw[e];exact cZ _ (zm hj')
  refine⟨Y[σ j]'(by rw[H.len];exact hlt),by rw[e];exact z1 hj',hlt,z1 _⟩
 have hσge:∀j,k<=j->σ j=nx+(j-k):=by
  intro j hj;rw[<-hσ];simp only[Zo,hL];rw[z7 (by omega)]
 obtain⟨ηc,hηc⟩:∃ηc:Env,ηc=L.map (fun i=>(Y[i]?).getD none):=⟨_,rfl⟩;have mM:ηc.length=k:=by rw[hηc];simp[hL]
 have mN:∀j,j<k->ηc[j]?=Y[σ j]?:=by
  intro j hj;obtain⟨y,h1,h2,h3⟩:=hσlt j hj;rw[hηc,z6,h1];simp[h3]
 have cB:dL Y ηc σ k:=fun j x hj hx=>by rw[mN j hj];exact hx
 have hdc:w6 ηc wX vs:=w6.wG cB hb (by rw[<-ha];exact hd);have ri:∀j h,wu j Oc=some h->j<k/\wu (σ j) O=some (wJ σ h)/\Zi k h=true:=fun j h hj=>hO (j,h) (W9 hj);have hto:∀{j:Nat},j<k->∀{h:Hp} {w:World} {n:Nat},wq ηc w (.loc j) h n->wq Y w (.loc (σ j)) (wJ σ h) n:=fun{j} hj {h w n} f=>f.wR fun x hx=>by rw[<-mN j hj];exact hx
 have hF:∀n,Yt ηc w Oc n->∃j h,wu j Oc=some h/\wq Y w (.loc (σ j)) (wJ σ h) n/\(M.F n\/M.w0.heap.size<=n):=by
  rintro n ⟨j,h,h1,f⟩;obtain⟨p1,p2,_⟩:=ri j h h1;exact⟨j,h,h1,hto p1 f,(H.own.1 _ _ p2).2 n (hto p1 f)⟩
 have Hc:uY {P:=M.P,C:={M.C with S:=jZ Sc},w0:=w,F:=Yt ηc w Oc,η0:=ηc} ηc w Oc k:=by
  refine⟨zw,mM,⟨?_,?_⟩,jS.refl _ _,?_⟩
  .intro j h hj;obtain⟨p1,p2,p3⟩:=ri j h hj;exact⟨(H.own.1 _ _ p2).1.wG cB p1 p3,fun n f=> .inl ⟨j,h,hj,f⟩⟩
  .intro j j' h h' n hj hj' hne f f';obtain⟨p1,p2,_⟩:=ri j h hj;obtain⟨q1,q2,_⟩:=ri j' h' hj';exact H.own.2 _ _ _ _ n p2 q2 (fun hh=>hne (iS j (Jf hj) j' (Jf hj') hh)) (hto p1 f) (hto q1 f')
  .intro b h gD;cases b with
   |qf g=>
    have hp:V1 h=true:=zR.1 M.C.T.bI (g,h) (W9 gD);obtain⟨s1,s2⟩:=H.qN (.qf g) h gD;refine⟨(H.shared (b:= .qf g) gD).plain hp,fun n f=>?_⟩;obtain⟨t1,t2⟩:=s2 g ⟨⟨g,0,0⟩,rfl, .inl rfl⟩;have hw:w.heap[g]?=M.w0.heap[g]?:=H.fr.block g t1 t2
    have f0:wq M.η0 M.w0 (.qf g) h n:=by
     obtain⟨e,h1,h2⟩:=f;cases h1
     exact⟨⟨g,0,0⟩,rfl,h2.imp id fun h=>h.keep hw⟩
    obtain⟨t1,t2⟩:=s2 n f0;refine⟨yL t1 H.fr.size,fun Gn=>?_⟩;obtain⟨_,_,_,_,q4⟩:=hF _ Gn;rcases q4 with q4|q4
    exact t2 q4;omega
   |loc j0=>
   obtain⟨j,hj0,hm⟩:=Zh2 gD;injection hj0 with hj0;subst j0;obtain⟨p1,p2,p3,p4⟩:=hS (j,h) hm;simp only at p1 p2 p3 p4;refine⟨(H.look p2).wG cB p1 p3,fun n f=>?_⟩;have f1:=hto p1 f;refine⟨(H.look p2).wY f1,fun Gn=>?_⟩;obtain⟨j',h',q1,fq,q4⟩:=hF _ Gn;obtain⟨r1,r2,_⟩:=ri j' h' q1;simp only[Yk]at p2;cases ho:wu (σ j) O with
   |some g=>
    have hne:σ j'≠σ j:=fun hh=>p4 (by rw[<-hh];exact vj (Jf q1));rw[ho]at p2;injection p2 with p2;subst p2;exact H.own.2 _ _ _ _ n r2 ho hne fq f1
   |none=>
    rw[ho]at p2;obtain⟨s1,s2⟩:=H.qN (.loc (σ j)) _ p2;obtain⟨x',hx',_⟩:=s1.lt;have f2:wq M.η0 M.w0 (.loc (σ j)) (wJ σ h) n:=(f1.less H.pre hx').keep fun e he=>H.fr.block e.g (s2 e.g (wq.own he)).1 (s2 e.g (wq.own he)).2;obtain⟨t1,t2⟩:=s2 n f2;rcases q4 with q4|q4
    exact t2 q4;omega
 refine⟨{P:=M.P,C:={M.C with S:=jZ Sc},w0:=w,F:=Yt ηc w Oc,η0:=ηc},rfl,rfl,rfl,rfl,rfl,Hc,hdc,?_⟩;intro r O' w8 η' v w' hpre H' eR;have hk':k<=w8:=by rw[<-H'.len,<-mM];exact hpre.length_le
 have iT:pZ η' (Y++η'.drop k) σ:=by
  intro i x hx;by_cases hi:i<k
  .obtain⟨y,h1,h2,h3⟩:=hσlt i hi;rw[zn (by rw[H.len];exact h2)]
   have:η'[i]?=ηc[i]?:=by
    obtain⟨t,rfl⟩:=hpre;rw[zn (by rw[mM];exact hi)]
   rw[<-mN i hi,<-this];exact hx
  .rw[hσge i (by omega),zx (by rw[H.len];omega),H.len,y8];rw[show k+(nx+(i-k)-nx)=i by omega];exact hx
 have pG:Y<+:Y++η'.drop k:=zC _ _;have hfr:jS w w' (Yt ηc w Oc):=H'.fr;refine⟨Y++η'.drop k,pG,?_,eR.wR iT⟩
 have hin:∀{i h},wu i (kJ σ O')=some h->∃j g,wu j O'=some g/\σ j=i/\h=wJ σ g/\uZ (Y++η'.drop k) w' true (.loc i) h/\∀n,wq (Y++η'.drop k) w' (.loc i) h n->wq η' w' (.loc j) g n/\(Yt ηc w Oc n\/w.heap.size<=n):=by
  intro i h hi;obtain⟨j,g,h1,h2,h3⟩:=Mz hi;obtain⟨p1,p2⟩:=H'.own.1 j g h1;obtain⟨x,hx,_⟩:=p1.lt;have hx':(Y++η'.drop k)[σ j]?=some x:=iT j x hx;refine⟨j,g,h1,h2,h3,?_,?_⟩;rw[h3,<-h2];exact p1.wR iT
  .intro n f;rw[h3,<-h2]at f;have f':wq η' w' (.loc j) g n:=f.wG fun y hy=>by rw[hx']at hy;injection hy with hy;rw[<-hy];exact hx
   exact⟨f',p2 n f'⟩
 have hout:∀{i h},wu i (ZY ((Zd Oc).map σ) O)=some h->wu i O=some h/\∀n,wq Y w (.loc i) h n->n<w.heap.size/\¬Yt ηc w Oc n:=by
  intro i h hi;obtain⟨h1,h2⟩:=CJ hi;refine⟨h2,fun n f=>⟨(H.own.1 i h h2).1.wY f,fun Gn=>?_⟩⟩;obtain⟨j',h',q1,fq,q4⟩:=hF _ Gn;obtain⟨r1,r2,_⟩:=ri j' h' q1;have hne:σ j'≠i:=fun hh=>h1 (by rw[<-hh];exact vj (Jf q1));exact H.own.2 _ _ _ _ n r2 h2 hne fq f
 have hkeep:∀{i h},wu i (ZY ((Zd Oc).map σ) O)=some h->∀n,wq Y w (.loc i) h n->w'.heap[n]?=w.heap[n]?:=fun hi n f=>hfr.block n ((hout hi).2 n f).1 ((hout hi).2 n f).2;have aG:∀{i h},wu i (ZY ((Zd Oc).map σ) O)=some h->∀n,wq (Y++η'.drop k) w' (.loc i) h n->wq Y w (.loc i) h n:=fun hi n f=>H.stands pG (hout hi).1 (hkeep hi) f;refine⟨H.pre.trans pG,?_,⟨?_,?_⟩,H.fr.trans hfr (fun n hn=>let⟨_,_,_,_,h⟩:=hF n hn;h),H.qN⟩;rw[zg,zF,H.len,H'.len]
 .intro i h hi;rcases Jg hi with hi|⟨_,hi⟩
  .obtain⟨j,g,h1,h2,h3,h4,h5⟩:=hin hi;refine⟨h4,fun n f=>?_⟩;rcases(h5 n f).2 with hb'|hb'
   obtain⟨_,_,_,_,hh⟩:=hF _ hb';exact hh;exact .inr (zP H.fr.size hb')
  .have h3:=H.own.1 i h (hout hi).1;exact⟨(h3.1.keep (hkeep hi)).mono pG,fun n f=>h3.2 n (aG hi n f)⟩
 .intro i i' h h' n hi hi' hne f f';rcases Jg hi with hi|⟨_,hi⟩<;>rcases Jg hi' with hi'|⟨_,hi'⟩
  .obtain⟨j,g,h1,h2,h3,h4,h5⟩:=hin hi;obtain⟨j',g',gU,Kb,HQ,h4',h5'⟩:=hin hi';exact H'.own.2 j j' g g' n h1 gU (fun hj=>hne (by rw[<-h2,<-Kb,hj])) (h5 n f).1 (h5' n f').1
  .obtain⟨j,g,h1,h2,h3,h4,h5⟩:=hin hi;obtain⟨h7,h8⟩:=(hout hi').2 n (aG hi' n f');rcases(h5 n f).2 with hb'|hb'
   exact h8 hb';omega
  .obtain⟨j,g,h1,h2,h3,h4,h5⟩:=hin hi';obtain⟨h7,h8⟩:=(hout hi).2 n (aG hi n f);rcases(h5 n f').2 with hb'|hb'
   exact h8 hb';omega
  exact H.own.2 i i' h h' n (hout hi).1 (hout hi').1 hne (aG hi n f) (aG hi' n f')
theorem CALL.of{M:Mx}{f:FuncId}{args:List SV}{O:w9}{nx:Nat}{K:SV->w9->Nat->Prop}{k:Nat}{wX:List SV}{Oc Sc:w9}{Q:SV->w9->Nat->Prop}(L:List Nat)(sp:uX M.P M.C.T f k wX Oc Sc Q)
 (hL:L.length=k) (cZ:∀i∈L,i<nx) (ha:args=qg (Zo L nx) wX) (hb:ZO k wX=true)
 (hO:∀p∈Oc,p.1<k/\wu (Zo L nx p.1) O=some (wJ (Zo L nx) p.2)/\Zi k p.2=true)
 (iS:∀j∈Zd Oc,∀j'∈Zd Oc,Zo L nx j=Zo L nx j'->j=j')
 (hS:∀p∈Sc,p.1<k/\Yk M.C O (.loc (Zo L nx p.1))=some (wJ (Zo L nx) p.2)/\Zi k p.2=true/\Zo L nx p.1∉ (Zd Oc).map (Zo L nx))
 (hK:∀r O' w8,Q r O' w8->K (wR (Zo L nx) r) (kJ (Zo L nx) O'++ZY ((Zd Oc).map (Zo L nx)) O) (nx+(w8-k))):CALL M f args O nx K:=by
 refine⟨fun Y w vs H hd=>?_⟩;obtain⟨Mc,h1,h2,h3,h4,h5,h6,h7,h8⟩:=CL L hL cZ ha hb hO iS hS H hd;refine(h1▸h5▸(sp.out Mc vs h1 h2 h3 h4 h6 h7)).mono ?_;rintro v w' ⟨r,O',w8,η',hq,hpre,H',eR⟩;obtain⟨η2,k1,k2,k3⟩:=h8 r O' w8 η' v w' hpre H' eR;exact⟨_,_,_,η2,k1,k2,k3,hK r O' w8 hq⟩
structure aH(P:Program)(T:kE)(f:FuncId)(k:Nat)(args:List SV)(O S:w9)(Q X:SV->w9->Nat->Prop):Prop where
 out:∀(M:Mx) (vs:List Value),M.P=P->M.C.T=T->M.F=Yt M.η0 M.w0 O->M.C.S=jZ S->uY M M.η0 M.w0 O k->w6 M.η0 args vs->
  gJ M.P f ⟨vs⟩ M.w0 (fun v w'=> ∃r O' w8 η',Q r O' w8/\M.η0<+:η'/\uY M η' w' O' w8/\Den η' r v) fun v w'=> ∃r O' w8 η',X r O' w8/\M.η0<+:η'/\uY M η' w' O' w8/\Den η' r v
theorem gJ.mono{P:Program}{f:FuncId}{args:Array Value}{w:World}{R R' X X':Value->World->Prop}(h:gJ P f args w R X)(hr:∀v w',R v w'->R' v w')(hx:∀v w',X v w'->X' v w'):gJ P f args w R' X':=by
 rcases h with⟨g,h1,h2⟩|⟨v,w',h1,h2⟩
 exact .inl ⟨g,h1,h2.mono fun e w' h=>h.elim (fun⟨v,h3,h4⟩=> .inl ⟨v,h3,hr v w' h4⟩) fun⟨v,h3,h4⟩=> .inr ⟨v,h3,hx v w' h4⟩⟩;exact .inr ⟨v,w',h1,hr v w' h2⟩
theorem aH.enter{P:Program}{T:kE}{f g:FuncId}{k:Nat}{args:List SV}{O S:w9}{Q X:SV->w9->Nat->Prop}{fn:Func}{c:Code}(hT:qa P T)(gP:∀args w,(callFunc f args).run P w= .ok (.enter g args) w)
 (hf:P.funcs[g]?=some fn) (hb:fn.body=some c) (N:Nat) (hN:fn.ntmps=N) (hlen:Nat.ble args.length N=true) (res:List ResultVar) (hres:fn.results=res.toArray)
 (h:∀w0 F η0,η0.length=k->run ⟨P,⟨T,N,jZ S,none⟩,w0,F,η0,some ([],fun v O nx=>wh ⟨P,⟨T,N,jZ S,none⟩,w0,F,η0,none⟩ O nx v X)⟩ c (UY 0 args) O k (iR ⟨P,⟨T,N,jZ S,none⟩,w0,F,η0,none⟩ res Q)) (oc:Nat.ble N DS=true:=by rfl):aH P T f k args O S Q X:=by
 refine⟨fun M vs hP aF hF hS H hd=> .inl ⟨g,by rw[hP];exact gP _ _,?_⟩⟩;obtain⟨P',⟨T',N',S',mL⟩,w0,F,η0,r9⟩:=M;simp only at hP aF hF hS H hd⊢;subst hP aF hS;have hk:η0.length=k:=H.len;obtain⟨px,hpx⟩:∃px,px=some (([]:Fr),fun(v:SV) (O:w9) (nx:Nat)=>wh ⟨P',⟨T',N,jZ S,none⟩,w0,F,η0,none⟩ O nx v X):=⟨_,rfl⟩;have H':uY ⟨P',⟨T',N,jZ S,none⟩,w0,F,η0,px⟩ η0 w0 O k:=⟨H.pre,H.len,H.own,H.fr,H.qN⟩;have hl:=ZU hd;refine callsIn_wide (n:=0)|>.1 (callsIn_of_wp_marks hf hb trivial ?_)
 have hm:wz ⟨P',⟨T',N,jZ S,none⟩,w0,F,η0,px⟩ η0 (UY 0 args) O k {tmps:=⟨vs⟩++Array.replicate (fn.ntmps-(Array.mk vs).size) undef,defers:=[]} w0:=by
  refine⟨H',?_,zT oc,CI (zP (zT hlen) (zT oc)),(fun l j h=>by cases h),?_⟩
  .have:=zT hlen;simp only[vX,uh,hN,yl];show vs.length+(N-vs.length)=N
   omega
  .intro t sv ht;obtain⟨v,_,h1,h2⟩:=HP hd ht;have hlt:=(zf.1 h1).1;simp only[Nat.sub_zero]at h1 hlt;rw[y6,yd (by simpa using hlt)];have:(Array.mk vs)[t]?=some v:=by simpa using h1
   rw[this];exact h2
 have hrun:=h w0 F η0 hk;rw[<-hpx]at hrun;refine Code.wpIn_mono ?_ (Y4 hT c hrun η0 _ w0 hm)
 have fin:∀{η1:Env} {jR:Fr} {O1:w9} {qq:Nat} {a:Act} {w1:World},wz ⟨P',⟨T',N,jZ S,none⟩,w0,F,η0,px⟩ η1 jR O1 qq a w1->(r8 jR O1 fun O1=>nO ⟨T',N,jZ S,none⟩ jR O1 res fun vs=>Gl ⟨P',⟨T',N,jZ S,none⟩,w0,F,η0,none⟩ O1 qq Q vs)->
  LeavesInM Fence.wide 0 P' fn a.tmps (fun e w'=>(∃v,e= .returned v/\∃r O' w8 η',Q r O' w8/\η0<+:η'/\uY ⟨P',⟨T',N',jZ S,mL⟩,w0,F,η0,r9⟩ η' w' O' w8/\Den η' r v)\/∃v,e= .panicked [{v,recovered:=false}]/\∃r O' w8 η',X r O' w8/\η0<+:η'/\uY ⟨P',⟨T',N',jZ S,mL⟩,w0,F,η0,r9⟩ η' w' O' w8/\Den η' r v) a.defers .returning w1:=by
  intro η1 jR O1 qq a w1 jh hr;refine CH (M:=⟨P',⟨T',N,jZ S,none⟩,w0,F,η0,px⟩) (K:=fun r O nx=>wh ⟨P',⟨T',N,jZ S,none⟩,w0,F,η0,none⟩ O nx r Q) hT hres jh (by simpa only[Mv]using hr) fun w2 O2 v r H2 hd2 hk=>?_;obtain⟨r',O',w8,η',h5,h6,h7,h8⟩:=hk.out η1 w2 v ⟨H2.pre,H2.len,H2.own,H2.fr,H2.qN⟩ hd2;exact .inl ⟨v,rfl,r',O',w8,η',h5,h6,⟨h7.pre,h7.len,h7.own,h7.fr,h7.qN⟩,h8⟩
 intro e a w hq;cases e with
 |normal=>obtain⟨η1,jR,O1,qq,jh,hq⟩:=hq;exact fin jh hq
 |ret=>obtain⟨η1,jR,O1,qq,jh,hq⟩:=hq;exact fin jh hq
 |exit id=>obtain⟨η1,jR,O1,qq,jh,hq⟩:=hq;exact hq.out.elim
 |goto l=>exact hq.elim
 |panic ch=>
  obtain⟨kp,X',h1,η1,O1,qq,v,sv,rfl,jh,fB,hx⟩:=hq;rw[hpx]at h1;injection h1 with h1;injection h1 with h1 h2;subst h1 h2;obtain⟨r',O',w8,η',h5,h6,h7,h8⟩:=wh.out hx η1 w v ⟨jh.heap.pre,jh.heap.len,jh.heap.own,jh.heap.fr,jh.heap.qN⟩ fB;have hdf:a.defers=[]:=jh.defers;show LeavesInM _ _ _ _ _ _ a.defers _ w
  rw[hdf];exact .inr ⟨v,rfl,r',O',w8,η',h5,h6,⟨h7.pre,h7.len,h7.own,h7.fr,h7.qN⟩,h8⟩
 |outgrown=>exact hq.elim
theorem fK.of{M:Mx}{f:FuncId}{args:List SV}{O:w9}{nx:Nat}{KP K:SV->w9->Nat->Prop}{k:Nat}{wX:List SV}{Oc Sc:w9}{Q X:SV->w9->Nat->Prop}(L:List Nat)(sp:aH M.P M.C.T f k wX Oc Sc Q X)
 (hL:L.length=k) (cZ:∀i∈L,i<nx) (ha:args=qg (Zo L nx) wX) (hb:ZO k wX=true)
 (hO:∀p∈Oc,p.1<k/\wu (Zo L nx p.1) O=some (wJ (Zo L nx) p.2)/\Zi k p.2=true)
 (iS:∀j∈Zd Oc,∀j'∈Zd Oc,Zo L nx j=Zo L nx j'->j=j')
 (hS:∀p∈Sc,p.1<k/\Yk M.C O (.loc (Zo L nx p.1))=some (wJ (Zo L nx) p.2)/\Zi k p.2=true/\Zo L nx p.1∉ (Zd Oc).map (Zo L nx))
 (hK:∀r O' w8,Q r O' w8->K (wR (Zo L nx) r) (kJ (Zo L nx) O'++ZY ((Zd Oc).map (Zo L nx)) O) (nx+(w8-k)))
 (hX:∀r O' w8,X r O' w8->KP (wR (Zo L nx) r) (kJ (Zo L nx) O'++ZY ((Zd Oc).map (Zo L nx)) O) (nx+(w8-k))):fK M f args O nx KP K:=by
 refine⟨fun Y w vs H hd=>?_⟩;obtain⟨Mc,h1,h2,h3,h4,h5,h6,h7,h8⟩:=CL L hL cZ ha hb hO iS hS H hd;refine(h1▸h5▸(sp.out Mc vs h1 h2 h3 h4 h6 h7)).mono ?_ ?_
 .rintro v w' ⟨r,O',w8,η',hq,hpre,H',eR⟩;obtain⟨η2,k1,k2,k3⟩:=h8 r O' w8 η' v w' hpre H' eR;exact⟨_,_,_,η2,k1,k2,k3,hK r O' w8 hq⟩
 .rintro v w' ⟨r,O',w8,η',hq,hpre,H',eR⟩;obtain⟨η2,k1,k2,k3⟩:=h8 r O' w8 η' v w' hpre H' eR;exact⟨_,_,_,η2,k1,k2,k3,hX r O' w8 hq⟩
theorem CALL.val{M:Mx}{f:FuncId}{args:List SV}{O:w9}{nx:Nat}{K:SV->w9->Nat->Prop}{r:SV}(sp:uX M.P M.C.T f 0 args [] [] fun r' O' w8=>r'=r/\O'=[]/\w8=0)(hp:YM args=true)(hr:plain r=true)(hK:K r O nx):CALL M f args O nx K:=by
 refine CALL.of [] sp rfl (fun i hi=>by cases hi) (ZN _ hp).symm (ZF 0 hp) (fun p hp=>by cases hp) (fun j hj=>by cases hj) (fun p hp=>by cases hp) ?_;rintro r' O' w8 ⟨rfl,rfl,rfl⟩;rw[X9 _ hr]
 have:ZY ((Zd []).map (Zo [] nx)) O=O:=by
  clear hK sp
  induction O with
  |nil=>rfl
  |cons p O ih=>obtain⟨i,h⟩:=p;simp only[ZY,Zd,yH,List.any_nil]at ih⊢;rw[ih]
 rw[this];simpa[kJ]using hK
def qd(r0:SV):SV->w9->Nat->Prop:=fun r O nx=>r=r0/\O=[]/\nx=0
theorem CALL.value{M:Mx}{f:FuncId}{args:List SV}{O:w9}{nx:Nat}{K:SV->w9->Nat->Prop}{r:SV}(sp:uX M.P M.C.T f 0 args [] [] (qd r))(hp:YM args=true)(hr:plain r=true)(hK:K r O nx):CALL M f args O nx K:=CALL.val sp hp hr hK
def n5(C:Cx)(O:w9)(σ:Nat->Nat)(k:Nat):w9->Prop
 | []=>True
 |(i,h)::r=>(Nat.blt i k=true/\Yk C O (.loc (σ i))=some (wJ σ h)/\Zi k h=true)/\n5 C O σ k r
theorem n5.at{C:Cx}{O:w9}{σ:Nat->Nat}{k:Nat}:∀{S:w9},n5 C O σ k S->∀p∈S,p.1<k/\Yk C O (.loc (σ p.1))=some (wJ σ p.2)/\Zi k p.2=true
 | [],_,p,hp=>by cases hp
 |(i,h)::r,hs,p,hp=>by
  rcases zK.1 hp with rfl|hp
  exact⟨by simpa[yS]using hs.1.1,hs.1.2⟩;exact n5.at hs.2 p hp
theorem XE:∀O:w9,ZY [] O=O
 | []=>rfl
 |(i,h)::O=>by
  have ih:=XE O;simp only[ZY,List.any_nil]at ih⊢;rw[ih]
theorem CALL.look{M:Mx}{f:FuncId}{args:List SV}{O:w9}{nx:Nat}{K:SV->w9->Nat->Prop}{k:Nat}{wX:List SV}{Sc:w9}{Q:SV->w9->Nat->Prop}(L:List Nat)(sp:uX M.P M.C.T f k wX [] Sc Q)
 (hL:L.length=k) (cZ:L.all (fun i=>Nat.blt i nx)=true) (ha:args=qg (Zo L nx) wX) (hb:ZO k wX=true) (hS:n5 M.C O (Zo L nx) k Sc)
 (hK:∀r O' w8,Q r O' w8->K (wR (Zo L nx) r) (kJ (Zo L nx) O'++O) (nx+(w8-k))):CALL M f args O nx K:=by
 refine CALL.of L sp hL (fun i hi=>by have:=zR.1 cZ i hi;simpa[yS]using this) ha hb (fun p hp=>by cases hp) (fun j hj=>by cases hj) (fun p hp=>?_) (fun r O' w8 h=>?_)
 .obtain⟨h1,h2,h3⟩:=hS.at p hp;exact⟨h1,h2,h3,fun h=>by cases h⟩
 .have:=hK r O' w8 h;simpa[Zd,XE]using this
def qE(k:Nat)(r0:SV):SV->w9->Nat->Prop:=fun r O nx=>r=r0/\O=[]/\nx=k
theorem CALL.looks{M:Mx}{f:FuncId}{args:List SV}{O:w9}{nx:Nat}{K:SV->w9->Nat->Prop}{k:Nat}{wX:List SV}{Sc:w9}{r:SV}(L:List Nat)(sp:uX M.P M.C.T f k wX [] Sc (qE k r))
 (hL:L.length=k) (cZ:L.all (fun i=>Nat.blt i nx)=true) (ha:args=qg (Zo L nx) wX) (hb:ZO k wX=true) (hS:n5 M.C O (Zo L nx) k Sc) (hK:K (wR (Zo L nx) r) O nx):CALL M f args O nx K:=by
 refine CALL.look L sp hL cZ ha hb hS ?_;rintro r' O' w8 ⟨rfl,rfl,rfl⟩;simpa[kJ]using hK
theorem uX.says{P:Program}{T:kE}{f:FuncId}{args:List SV}{r:SV}(h:∀Y w vs,w6 Y args vs->∃v,(callFunc f ⟨vs⟩).run P w= .ok (.value v) w/\Den Y r v):uX P T f 0 args [] [] (qd r):=by
 refine⟨fun M vs hP hT hF hS H hd=>?_⟩;obtain⟨v,h1,h2⟩:=h M.η0 M.w0 vs hd;exact .inr ⟨v,M.w0,by rw[hP];exact h1,r,[],0,M.η0,⟨rfl,rfl,rfl⟩,zw,⟨H.pre,H.len,⟨fun i h hi=>by simp[wu]at hi,fun i j h h' n hi=>by simp[wu]at hi⟩,H.fr,H.qN⟩,h2⟩
theorem wh.val{M:Mx}{O:w9}{nx k:Nat}{r:SV}{Q:SV->w9->Nat->Prop}(hk:M.η0.length=k)(hp:plain r=true)(hQ:Q r [] k):wh M O nx r Q:=by
 refine⟨fun Y w v H hd=>⟨r,[],k,M.η0,hQ,zw,⟨zw,hk,⟨fun i h hi=>by simp[wu]at hi,fun i j h h' n hi=>by simp[wu]at hi⟩,H.fr,H.qN⟩,?_⟩⟩;have hb:dL Y M.η0 (fun i=>i) 0:=fun i x hi=>by omega
 exact Den.wG hb (XD 0 hp) (by rw[X9 _ hp];exact hd)
theorem wh.value{M:Mx}{O:w9}{nx:Nat}{r r0:SV}(hk:M.η0.length=0)(hp:plain r=true)(hQ:r=r0):wh M O nx r (qd r0):=wh.val hk hp ⟨hQ,rfl,rfl⟩
theorem wh.wC{M:Mx}{O:w9}{nx k:Nat}{r r0:SV}(hk:M.η0.length=k)(hp:plain r=true)(hQ:r=r0):wh M O nx r (qE k r0):=wh.val hk hp ⟨hQ,rfl,rfl⟩
def YL(k:Nat)(Z:List Nat)(j:Nat):Nat:=if j<k then j else Z.getD (j-k) 0
theorem uY.names{M:Mx}{Y:Env}{w:World}{O:w9}{nx k:Nat}(H:uY M Y w O nx)(hk:M.η0.length=k)(Z:List Nat){Oc:w9}(hτ:∀i∈Z,i<nx)
 (hO:∀p∈Oc,p.1<k+Z.length/\wu (YL k Z p.1) O=some (wJ (YL k Z) p.2)/\Zi (k+Z.length) p.2=true)
 (hn:∀j∈Zd Oc,∀j'∈Zd Oc,YL k Z j=YL k Z j'->j=j'):∃η',M.η0<+:η'/\uY M η' w Oc (k+Z.length)/\dL Y η' (YL k Z) (k+Z.length):=by
 generalize hσ:YL k Z=σ at*;obtain⟨η',hη'⟩:∃η':Env,η'=M.η0++Z.map (fun i=>(Y[i]?).getD none):=⟨_,rfl⟩
 have kZ:∀j,j<k+Z.length->η'[j]?=Y[σ j]?:=by
  intro j hj;rw[hη',<-hσ];by_cases h:j<k
  .rw[zn (by omega)];simp only[YL,zh h];obtain⟨t,ht⟩:=H.pre;rw[<-ht,zn (by omega)]
  .rw[zx (by omega),hk,z6];have hlt:j-k<Z.length:=by omega
   simp only[YL,z7 h,z1 hlt,Option.map_some,List.getD,Option.getD_some];have:=hτ _ (zm hlt);rw[z1 (by rw[H.len];exact this)]
   rfl
 have cB:dL Y η' σ (k+Z.length):=fun j x hj hx=>by rw[kZ j hj];exact hx
 have ri:∀j h,wu j Oc=some h->j<k+Z.length/\wu (σ j) O=some (wJ σ h)/\Zi (k+Z.length) h=true:=fun j h hj=>hO (j,h) (W9 hj);refine⟨η',by rw[hη'];exact zC _ _,⟨by rw[hη'];exact zC _ _,by rw[hη'];simp[hk],⟨?_,?_⟩,H.fr,H.qN⟩,cB⟩
 .intro j h hj;obtain⟨p1,p2,p3⟩:=ri j h hj;exact⟨(H.own.1 _ _ p2).1.wG cB p1 p3,fun n f=>(H.own.1 _ _ p2).2 n (f.wR fun x hx=>by rw[<-kZ j p1];exact hx)⟩
 .intro j j' h h' n hj hj' hne f f';obtain⟨p1,p2,_⟩:=ri j h hj;obtain⟨q1,q2,_⟩:=ri j' h' hj';exact H.own.2 _ _ _ _ n p2 q2 (fun hh=>hne (hn j (Jf hj) j' (Jf hj') hh)) (f.wR fun x hx=>by rw[<-kZ j p1];exact hx) (f'.wR fun x hx=>by rw[<-kZ j' q1];exact hx)
theorem wh.keep{M:Mx}{O:w9}{nx k:Nat}{r:SV}{Q:SV->w9->Nat->Prop}(hk:M.η0.length=k)(Z:List Nat){rc:SV}{Oc:w9}(hτ:∀i∈Z,i<nx)(hr:r=wR (YL k Z) rc)(hb:ZV (k+Z.length) rc=true)
 (hO:∀p∈Oc,p.1<k+Z.length/\wu (YL k Z p.1) O=some (wJ (YL k Z) p.2)/\Zi (k+Z.length) p.2=true)
 (hn:∀j∈Zd Oc,∀j'∈Zd Oc,YL k Z j=YL k Z j'->j=j') (hQ:Q rc Oc (k+Z.length)):wh M O nx r Q:=by
 refine⟨fun Y w v H hd=>?_⟩;obtain⟨η',h1,h2,h3⟩:=H.names hk Z hτ hO hn;exact⟨rc,Oc,k+Z.length,η',hQ,h1,h2,Den.wG h3 hb (by rw[<-hr];exact hd)⟩
def bp(σ:Nat->Nat)(m:Nat)(fr:Fr):Fr->Prop
 | []=>True
 |(t,v)::r=>(wu t fr=some (wR σ v)/\ZV m v=true)/\bp σ m fr r
theorem bp.at{σ:Nat->Nat}{m:Nat}{fr:Fr}:∀{fr':Fr},bp σ m fr fr'->∀t v,wu t fr'=some v->wu t fr=some (wR σ v)/\ZV m v=true
 | [],_,t,v,h=>by simp[wu]at h
 |(d,u)::r,hs,t,v,h=>by
  rw[Za]at h;split at h
  rename_i e;subst e;injection h with h;subst h;exact hs.1
  exact bp.at hs.2 t v h
def n9(σ:Nat->Nat)(m:Nat)(O:w9):w9->Prop
 | []=>True
 |(i,h)::r=>(Nat.blt i m=true/\wu (σ i) O=some (wJ σ h)/\Zi m h=true)/\n9 σ m O r
theorem n9.at{σ:Nat->Nat}{m:Nat}{O:w9}:∀{O':w9},n9 σ m O O'->∀p∈O',p.1<m/\wu (σ p.1) O=some (wJ σ p.2)/\Zi m p.2=true
 | [],_,p,hp=>by cases hp
 |(i,h)::r,hs,p,hp=>by
  rcases zK.1 hp with rfl|hp
  exact⟨by simpa[yS]using hs.1.1,hs.1.2⟩;exact n9.at hs.2 p hp
def iU:Option SV->Bool
 |some (.eE _)=>true
 |_=>false
def tu(fr fr':Fr):Bool:=match iU (wu DS fr)with
 |true=>iU (wu DS fr')
 |false=>!(iU (wu DS fr'))
theorem jf.no{Y:Env}{ds:List Deferred}{v:Option SV}(h:iU v=false):jf Y ds v<->ds=[]:=by
 cases v with
 |none=>exact xK
 |some v=>cases v<;>first|exact xK|cases h
theorem jf.goes{Y η':Env}{σ:Nat->Nat}{m:Nat}{fr fr':Fr}{ds:List Deferred}(hb:dL Y η' σ m)(hd:tu fr fr'=true)(hf:∀v,wu DS fr'=some v->wu DS fr=some (wR σ v)/\ZV m v=true)(h:jf Y ds (wu DS fr)):jf η' ds (wu DS fr'):=by
 unfold tu at hd;split at hd
 .cases hv:wu DS fr' with
  |none=>rw[hv]at hd;cases hd
  |some v=>
   rw[hv]at hd;cases v with
   |eE l=>
    obtain⟨h1,h2⟩:=hf _ hv;rw[h1]at h;simp only[jf,wR]at h⊢;exact fe.wG hb (by simpa only[ZV]using h2) h
   |_=>cases hd
 .rename_i h1;rw[jf.no h1]at h;rw[jf.no (by simpa using hd)];exact h
def tv(ro:Option (Nat×Nat))(σ:Nat->Nat)(m:Nat):Bool:=match ro with
 |none=>true
 |some p=>Nat.blt p.2 m&&Nat.beq (σ p.2) p.2
theorem MA{ro:Option (Nat×Nat)}{σ:Nat->Nat}{m l j:Nat}(h:tv ro σ m=true)(hr:ro=some (l,j)):j<m/\σ j=j:=by
 subst hr;simp only[tv,zk,yS]at h;exact⟨h.1,Zs h.2⟩
theorem w5.keep{M:Mx}{fr:Fr}{O:w9}{nx k:Nat}{fr':Fr}{O':w9}(hk:M.η0.length=k)(Z:List Nat)(hτ:Z.all (fun i=>Nat.blt i nx)=true)(hf:bp (YL k Z) (k+Z.length) fr fr')(hO:n9 (YL k Z) (k+Z.length) O O')
 (hn:(Zd O').all (fun j=>(Zd O').all fun j'=>!(Nat.beq (YL k Z j) (YL k Z j'))||Nat.beq j j')=true) (hd:tu fr fr'=true:=by rfl) (hro:tv M.C.ro (YL k Z) (k+Z.length)=true:=by rfl):w5 M fr O nx fr' O' (k+Z.length):=by
 refine⟨fun Y a w hm=>?_⟩
 obtain⟨η',h1,h2,h3⟩:=hm.heap.names hk Z (fun i hi=>by have:=zR.1 hτ i hi;simpa[yS]using this) hO.at (fun j hj j' hj' he=>by
  have:=zR.1 (zR.1 hn j hj) j' hj';simp only[he,Xh,vp,xJ]at this
  exact Zs this)
 refine⟨η',h2,hm.size,hm.cN,hm.defers.goes h3 hd (fun v hv=>hf.at DS v hv),fun l j hj=>?_,fun t v ht=>?_⟩
 .obtain⟨h4,h5⟩:=MA hro hj;obtain⟨e,h6,h7⟩:=hm.ro l j hj;exact⟨e,h3 j _ h4 (by rw[h5];exact h6),h7⟩
 obtain⟨h4,h5⟩:=hf.at t v ht;exact Den.wG h3 h5 (hm.frame t _ h4)
theorem uX.calls{P:Program}{T:kE}{g:FuncId}{args:List SV}{r:SV}{vs:List Value}{w:World}(sp:uX P T g 0 args [] [] (qd r))(eg:∀args w,(callFunc g args).run P w= .ok (.enter g args) w)(hd:w6 [] args vs)
 (hg:∀g h,wu g T.jc=some h->uZ [] w false (.qf g) h/\g<w.heap.size):
 Calls P g ⟨vs⟩ w fun e w'=> ∃v,e= .returned v/\Den [] r v/\jS w w' fun _=>False:=by
 have H:uY ⟨P,⟨T,0,[],none⟩,w,fun _=>False,[],none⟩ [] w [] 0:=⟨zw,rfl,⟨fun i h hi=>by simp[wu]at hi,fun i j h h' n hi=>by simp[wu]at hi⟩,jS.refl _ _,fun b h hb=>by
  cases b with
  |loc i=>simp[cT,jd]at hb
  |qf g=>
   obtain⟨h1,h2⟩:=hg g h hb
   exact⟨h1,fun k f=>⟨h1.wY f,fun h=>h⟩⟩⟩
 have hF:(fun _=>False:Nat->Prop)=Yt [] w []:=by
  funext n;simp[Yt,wu]
 rcases sp.out ⟨P,⟨T,0,[],none⟩,w,fun _=>False,[],none⟩ vs rfl rfl hF rfl H hd with⟨g',h1,h2⟩|⟨v,w',h1,_⟩
 .rw[eg]at h1;injection h1 with h1 _;injection h1 with h1 _;subst h1;refine h2.mono fun e w' he=>?_;obtain⟨v,rfl,r',O',w8,η',⟨rfl,rfl,rfl⟩,_,h4,h5⟩:=he;have:η'=[]:=zJ.1 h4.len;subst this;exact⟨v,rfl,h5,h4.fr⟩
 rw[eg]at h1;cases h1
section
variable {σ:Nat->Nat}
theorem HZ(h:∀j,σ j=j):∀b,qo σ b=b
 | .qf g=>rfl
 | .loc i=>by simp only[qo,h]
mutual
theorem Q4(h:∀j,σ j=j):∀v,wR σ v=v
 | .bool _=>rfl
 | .int _ _=>rfl
 | .str _=>rfl
 | .val _=>rfl
 | .any=>rfl
 | .nb _=>rfl
 | .eE l=>by simp only[wR,Wc h l]
 | .yf b=>by simp only[wR,HZ h]
 | .mp b=>by simp only[wR,HZ h]
 | .ptr b _ _ _=>by simp only[wR,HZ h]
 | .sl b _ _ _ _=>by simp only[wR,HZ h]
 | .agg cs=>by simp only[wR,Wc h cs]
 | .arr _ rs=>by simp only[wR,GD h rs]
 | .wM vs=>by simp only[wR,Wc h vs]
 | .dX _ v=>by simp only[wR,Q4 h v]
 | .fn _ a b=>by simp only[wR,Wc h a,Wc h b]
theorem Wc(h:∀j,σ j=j):∀vs,qg σ vs=vs
 | []=>rfl
 |c::cs=>by simp only[qg,Q4 h c,Wc h cs]
theorem GD(h:∀j,σ j=j):∀vs,Xo σ vs=vs
 | []=>rfl
 |c::cs=>by simp only[Xo,Wc h c,GD h cs]
end
theorem MZ(h:∀j,σ j=j):∀fr,gM σ fr=fr
 | []=>rfl
 |(t,v)::r=>by simp only[gM,Q4 h v,MZ h r]
theorem Zjo(h:∀j,σ j=j):∀c,eW σ c=c
 | .v s=>by simp only[eW,Q4 h]
 | .wZ _ rs=>by simp only[eW,GD h]
theorem L0(h:∀j,σ j=j):∀r,pE σ r=r
 | []=>rfl
 |c::cs=>by simp only[pE,Zjo h,L0 h cs]
theorem L2(h:∀j,σ j=j):∀r,XL σ r=r
 | []=>rfl
 |c::cs=>by simp only[XL,L0 h,L2 h cs]
theorem Zjp(h:∀j,σ j=j):∀hp,wJ σ hp=hp
 | .deep _ _ _=>by simp only[wJ,L2 h]
 | .box _=>by simp only[wJ,Wc h]
 | .rows _ _=>by simp only[wJ,GD h]
 | .qM _ _=>rfl
 | .ak _=>rfl
 | .jJ _ _ _=>rfl
 | .eP _=>rfl
 | .lp _ _ fr=>by simp only[wJ,MZ h]
 | .mp _=>by simp only[wJ,GD h]
end
def bz(m:Nat)(fr:Fr):Fr->Prop
 | []=>True
 |(t,v)::r=>(wu t fr=some v/\ZV m v=true)/\bz m fr r
def nr(m:Nat)(O:w9):w9->Prop
 | []=>True
 |(i,h)::r=>(wu i O=some h/\Nat.blt i m=true/\Zi m h=true)/\nr m O r
theorem bz.at{m:Nat}{fr:Fr}:∀{fr':Fr},bz m fr fr'->∀t v,wu t fr'=some v->wu t fr=some v/\ZV m v=true
 | [],_,t,v,h=>by simp[wu]at h
 |(d,u)::r,hs,t,v,h=>by
  rw[Za]at h;split at h
  rename_i e;subst e;injection h with h;subst h;exact hs.1
  exact bz.at hs.2 t v h
theorem nr.at{m:Nat}{O:w9}:∀{O':w9},nr m O O'->∀i h,wu i O'=some h->wu i O=some h/\i<m/\Zi m h=true
 | [],_,t,v,h=>by simp[wu]at h
 |(d,u)::r,hs,t,v,h=>by
  rw[Za]at h;split at h
  .rename_i e;subst e;injection h with h;subst h
   exact⟨hs.1.1,by simpa[yS]using hs.1.2.1,hs.1.2.2⟩
  exact nr.at hs.2 t v h
variable {M:Mx}{fr fr':Fr}{O O':w9}{nx:Nat}
theorem w5.cut{k:Nat}(m:Nat)(hk:M.η0.length=k)(hkm:Nat.ble k m=true)(hmn:Nat.ble m nx=true)(hf:bz m fr fr')(hO:nr m O O')(hd:tu fr fr'=true:=by rfl)(hro:tv M.C.ro id m=true:=by rfl):w5 M fr O nx fr' O' m:=by
 have hkm:=zT hkm;have hmn:=zT hmn;refine⟨fun Y a w hm=>?_⟩;have hid:∀j:Nat,id j=j:=fun _=>rfl
 have cB:dL Y (Y.take m) id m:=fun i x hi hx=>by
  simp only[id]at hx;rw[zQ,zh hi];exact hx
 have hlen:(Y.take m).length=m:=by rw[zu,hm.heap.len];omega
 refine⟨Y.take m,⟨?_,hlen,⟨fun i h hi=>?_,fun i j h h' n hi hj hij f f'=>?_⟩,hm.heap.fr,hm.heap.qN⟩,hm.size,hm.cN,hm.defers.goes cB hd (fun v hv=>by rw[Q4 hid];exact hf.at DS v hv),fun l j hj=>?_,fun t v ht=>?_⟩
 .obtain⟨t,ht⟩:=hm.heap.pre;refine⟨t.take (m-k),?_⟩;rw[<-ht,List.take_append,hk,zi (l:=M.η0) (by omega)]
 .obtain⟨h1,h2,h3⟩:=hO.at i h hi;refine⟨uZ.wG cB h2 h3 ?_,fun n f=>(hm.heap.own.1 i h h1).2 n (f.mono (uH m Y))⟩;rw[Zjp hid];exact(hm.heap.own.1 i h h1).1
 .obtain⟨h1,h2,h3⟩:=hO.at i h hi;obtain⟨h4,h5,h6⟩:=hO.at j h' hj;exact hm.heap.own.2 i j h h' n h1 h4 hij (f.mono (uH m Y)) (f'.mono (uH m Y))
 .obtain⟨h4,_⟩:=MA hro hj;obtain⟨e,h6,h7⟩:=hm.ro l j hj;exact⟨e,cB j _ h4 h6,h7⟩
 .obtain⟨h1,h2⟩:=hf.at t v ht;exact Den.wG cB h2 (by rw[Q4 hid];exact hm.frame t v h1)
def mS(fr:Fr):Fr->Prop
 | []=>True
 |(t,v)::r=>match wu t fr with
  |some u=>u=v/\mS fr r
  |none=>False
def GF(O:w9):w9->Prop
 | []=>True
 |(i,h)::r=>match wu i O with
  |some g=>g=h/\GF O r
  |none=>False
def UB(m:Nat):Fr->Bool
 | []=>true
 |(_,v)::r=>ZV m v&&UB m r
def Zj(m:Nat):w9->Bool
 | []=>true
 |(i,h)::r=>Nat.blt i m&& (Zi m h&&Zj m r)
theorem L3{m:Nat}{fr:Fr}:∀{fr':Fr},mS fr fr'->UB m fr'=true->bz m fr fr'
 | [],_,_=>trivial
 |(t,v)::r,h,b=>by
  simp only[mS]at h;simp only[UB,zk]at b;split at h
  .rename_i u hu;obtain⟨rfl,h⟩:=h;exact⟨⟨hu,b.1⟩,L3 h b.2⟩
  exact h.elim
theorem L4{m:Nat}{O:w9}:∀{O':w9},GF O O'->Zj m O'=true->nr m O O'
 | [],_,_=>trivial
 |(t,v)::r,h,b=>by
  simp only[GF]at h;simp only[Zj,zk]at b;split at h
  .rename_i u hu;obtain⟨rfl,h⟩:=h;exact⟨⟨hu,b.1,b.2.1⟩,L4 h b.2.2⟩
  exact h.elim
theorem w5.qn{k m:Nat}(hk:M.η0.length=k)(hkm:Nat.ble k m=true)(hmn:Nat.ble m nx=true)(Q5:UB m fr'=true)(Q6:Zj m O'=true)(hf:mS fr fr')(hO:GF O O')(hd:tu fr fr'=true:=by rfl)(hro:tv M.C.ro id m=true:=by rfl):w5 M fr O nx fr' O' m:=
 w5.cut m hk hkm hmn (L3 hf Q5) (L4 hO Q6) hd hro
theorem w5.trans{cw:Fr}{O2:w9}{n1 n2:Nat}(h:w5 M fr O nx fr' O' n1)(k:w5 M fr' O' n1 cw O2 n2):w5 M fr O nx cw O2 n2:=
 ⟨fun Y a w hm=>let⟨η1,h1⟩:=h.out Y a w hm;k.out η1 a w h1⟩
theorem w5.nil(t es:Nat)(h0:wu t fr=some (.val (.slice none 0 0))):w5 M fr O nx ((t, .sl (.loc nx) 0 es 0 none)::fr) ((nx, .rows es [])::O) (nx+1):=by
 refine⟨fun Y a w hm=>?_⟩;have hpre:Y<+:Y++ [none]:=zC _ _;have hnew:(Y++ [none])[nx]?=some none:=by rw[zx (by rw[hm.heap.len];omega),hm.heap.len];simp
 refine⟨Y++ [none],hm.heap.push none (fun _ _=>rfl) (zo _) rfl rfl rfl (zo _) (.inl ⟨hnew,rfl⟩) (fun k f=>(wq.none (b:= .loc nx) hnew f).elim) (fun k f=>(wq.none (b:= .loc nx) hnew f).elim),hm.size,hm.cN,?_,Us hpre hm.ro,fun u v hu=>?_⟩
 .have hdf:=hm.defers.mono hpre;rw[Za];split
  .rename_i e;rw[e,h0,jf.no rfl]at hdf;rw[jf.no rfl];exact hdf
  exact hdf
 .rw[Za]at hu;split at hu
  .rename_i e;subst e;injection hu with hu;subst hu
   have:=hm.frame u _ h0;simp only[Den]at this⊢;exact .inl ⟨hnew,this.1,trivial⟩
  exact Den.mono hpre (hm.frame u v hu)
theorem wj.goes{body:Code}{Q:Post}{n1:Nat}(h:w5 M fr O nx fr' O' n1)(k:wj M body fr' O' n1 Q):wj M body fr O nx Q:=
 ⟨fun Y a w hm=>let⟨η1,h1⟩:=h.out Y a w hm;k.out η1 a w h1⟩
theorem wj.nil{body:Code}{Q:Post}(t es:Nat)(h0:wu t fr=some (.val (.slice none 0 0)))(k:wj M body ((t, .sl (.loc nx) 0 es 0 none)::fr) ((nx, .rows es [])::O) (nx+1) Q):wj M body fr O nx Q:=wj.goes (w5.nil t es h0) k
theorem wh.rows{k:Nat}{r:SV}{Q:SV->w9->Nat->Prop}(hk:M.η0.length=k)(i es len:Nat){rs:List (List SV)}(hr:r= .sl (.loc i) 0 es len none)(hO:wu i O=some (.rows es rs))(hi:Nat.blt i nx=true)(hp:Zp rs=true)
 (hQ:Q (.sl (.loc k) 0 es len none) [(k, .rows es rs)] (k+1)):wh M O nx r Q:=by
 have hi:i<nx:=by simpa[yS]using hi
 have hf:YL k [i] k=i:=by simp[YL]
 refine wh.keep hk [i] (rc:= .sl (.loc k) 0 es len none) (Oc:=[(k, .rows es rs)]) (fun j hj=>by simp at hj;omega) (by rw[hr];simp only[wR,qo,hf]) (by simp[ZV,r5,yS]) ?_ ?_ hQ
 .intro p hp';simp only[zL]at hp';subst hp';refine⟨by simp,?_,by simp only[Zi,Z2 _ hp]⟩;simp only[wJ,hf,Zb _ hp,hO]
 .intro j hj j' hj' _;simp[Zd]at hj hj';omega
def WI(k:Nat)(l:List UInt8):SV->w9->Nat->Prop:=fun r O nx=>r= .sl (.loc k) 0 1 l.length none/\O=[(k, .rows 1 (l.map bytesRow))]/\nx=k+1
theorem Zf(l:List UInt8):Zp (l.map bytesRow)=true:=ZH _ (fun _=>rfl) l
theorem E0{L:List Nat}{nx k:Nat}(hL:L.length=k):Zo L nx k=nx:=by simp[Zo,hL]
theorem CALL.bytes{f:FuncId}{args:List SV}{K:SV->w9->Nat->Prop}{l:List UInt8}(sp:uX M.P M.C.T f 0 args [] [] (WI 0 l))(hp:YM args=true)
 (hK:K (.sl (.loc nx) 0 1 l.length none) ((nx, .rows 1 (l.map bytesRow))::O) (nx+1)):CALL M f args O nx K:=by
 refine CALL.of [] sp rfl (fun i hi=>by cases hi) (ZN _ hp).symm (ZF 0 hp) (fun p hp=>by cases hp) (fun j hj=>by cases hj) (fun p hp=>by cases hp) ?_;rintro r' O' w8 ⟨rfl,rfl,rfl⟩;simp only[wR,qo,kJ,wJ,Zb _ (Zf l),E0 (L:=[]) (nx:=nx) (k:=0) rfl,Zd,yH,XE,List.cons_append,List.nil_append];exact hK
theorem L5(xs:List UInt8)(r n:Nat):((xs.map bytesRow).drop r).take n=((xs.drop r).take n).map bytesRow:=by rw[xx,vL]
theorem Q7(xs:List UInt8):(xs.map bytesRow).map iy=xs:=M6 xs
theorem Jq{xs:List UInt8}{r n:Nat}(h:r+n<=xs.length):(((xs.map bytesRow).drop r).take n).length=n/\∃l:List UInt8,((xs.map bytesRow).drop r).take n=l.map bytesRow:=
 ⟨by simp;omega,_,L5 xs r n⟩
theorem UC(xs:List UInt8):(((xs.map bytesRow).drop 0).take xs.length).map iy=xs:=by rw[L5,Q7];simp
theorem CALL.jq{f:FuncId}{args wX:List SV}{K:SV->w9->Nat->Prop}{es:Nat}{rs:List (List SV)}{r:SV}(i:Nat)(sp:uX M.P M.C.T f 1 wX [] [(0, .rows es rs)] (qE 1 r))
 (ha:args=qg (Zo [i] nx) wX) (hi:Nat.blt i nx=true) (hb:ZO 1 wX=true) (hO:Yk M.C O (.loc i)=some (.rows es rs)) (hp:Zp rs=true) (hr:plain r=true) (hK:K r O nx):CALL M f args O nx K:=by
 refine CALL.looks [i] sp rfl (by simp[hi]) ha hb ⟨⟨rfl,?_,Yj _ hp⟩,trivial⟩ ?_
 .rw[show wJ (Zo [i] nx) (.rows es rs)= .rows es rs from Zu _ hp];exact hO
 rw[X9 _ hr];exact hK
def Kg:List Nat->Fr->(Fr->Prop)->Prop
 | [],fr,K=>match wu DS fr with
   |some v=>K [(DS,v)]
   |none=>K []
 |t::ts,fr,K=>match wu t fr with
  |some v=>Kg ts fr fun r=>K ((t,v)::r)
  |none=>qc "kept"
def bS:Fr->Fr->(Fr->Prop)->Prop
 | [],r,K=>K r
 |(t,v)::l,r,K=>bS l r fun r=>K ((t,v)::r)
def nt:w9->(w9->Prop)->Prop
 | [],K=>K []
 |(t,v)::l,K=>nt l fun r=>K ((t,v)::r)
theorem B1:∀{ts:List Nat} {fr:Fr} {K:Fr->Prop},Kg ts fr K->∃r,K r
 | [],fr,K,h=>by
   simp only[Kg]at h;split at h
   exact⟨_,h⟩;exact⟨_,h⟩
 |t::ts,fr,K,h=>by
  simp only[Kg]at h;split at h
  obtain⟨r,hr⟩:=B1 h;exact⟨_,hr⟩;exact h.out.elim
theorem B2:∀{l r:Fr} {K:Fr->Prop},bS l r K<->K (l++r)
 | [],r,K=>xK
 |(t,v)::l,r,K=>by simp only[bS,List.cons_append,B2]
theorem L6:∀{l:w9} {K:w9->Prop},nt l K<->K l
 | [],K=>xK
 |(t,v)::l,K=>by simp only[nt,L6]
theorem wj.go{body:Code}{Q:Post}(hT:qa M.P M.C.T)(ks:List Nat){X:Type}(P:X->Prop)(rW:X->Fr)(Ox:X->w9)(n0:Nat)(Z:X->Nat)(x0:X)(hP:P x0)
 (h:Kg ks fr fun gw=>(bS (rW x0) gw fun fr'=>nt (Ox x0) fun O'=>w5 M fr O nx fr' O' n0)/\
   ∀x,P x->bS (rW x) gw fun jR=>nt (Ox x) fun O1=>run M body jR O1 n0 fun e fr O nx=>match e with
    | .normal=> ∃x',P x'/\Z x'<Z x/\bS (rW x') gw fun fr'=>nt (Ox x') fun O'=>w5 M fr O nx fr' O' n0
    |e=>Q e fr O nx):wj M body fr O nx Q:=by
 obtain⟨gw,h1,h2⟩:=B1 h;simp only[B2,L6]at h1 h2;exact wj.inv hT P (fun x=>(rW x++gw,Ox x,n0)) Z x0 hP h1 h2
theorem dI.at{rs:List (List SV)}{i:Nat}{g:Prop}{K:List SV->Prop}{row:List SV}(h:rs[i]?=some row)(k:K row):dI g rs i K:=⟨row,fun _=>h,k⟩
theorem Z5{a:Int}(h1: -9223372036854775808<=a)(h2:a<=9223372036854775807):IntKind.i64.wrap a=a:=IntWalk.i64_in _ ⟨by omega,by omega⟩
theorem Zn{a:Int}(h1: -2147483648<=a)(h2:a<=2147483647):IntKind.i32.wrap a=a:=IntWalk.i32_in _ ⟨by omega,by omega⟩
theorem GG:(∀(p:Prop) [Decidable p],(decide p=true)=p)/\(∀(p:Prop) [Decidable p],(decide p=false)<->¬p)/\(∀b:Bool,(¬b=true)=(b=false))/\(∀b:Bool,(¬b=false)=(b=true))/\(∀a b:Bool,((!a)=b)<->(a=!b))/\
 ((!true)=false)/\((!false)=true)/\(∀a b:Bool,((a&&b)=true)=(a=true/\b=true))/\(∀a b:Bool,((a||b)=true)=(a=true\/b=true))/\(∀a b:Bool,((a&&b)=false)=(a=true->b=false))/\(∀a b:Bool,((a||b)=false)=(a=false/\b=false))/\
 (∀{J:Type} [BEq J] [LawfulBEq J] (a b:J),((a !=b)=true)<->a≠b)/\(∀{J:Type} [BEq J] [LawfulBEq J] (a b:J),((a !=b)=false)<->a=b)/\(∀{J:Type} [BEq J] [LawfulBEq J] (a b:J),((a==b)=true)<->a=b)/\(∀{J:Type} [BEq J] [LawfulBEq J] (a b:J),((a==b)=false)<->a≠b)/\
 (∀{J:Type} (a b:J),(a≠b)=¬(a=b))/\(∀c:Bool,(bif c then c else false)=c)/\(∀a b:Bool,(bif a then b else false)=(a&&b))/\(∀a b:Bool,(bif a then true else b)=(a||b))/\(∀a b:Bool,(bif a then b else true)=(!a||b))/\(∀a b:Bool,(bif a then false else b)=(!a&&b)):=
 ⟨fun p _=>by simp,fun p _=>by simp,fun b=>by simp,fun b=>by simp,fun a b=>by cases a<;>cases b<;>simp,rfl,rfl,fun a b=>by simp,fun a b=>by simp,fun a b=>by simp,fun a b=>by simp,fun a b=>by simp,fun a b=>by simp,fun a b=>by simp,fun a b=>by simp,
  fun a b=>rfl,fun c=>by cases c<;>rfl,fun a b=>by cases a<;>rfl,fun a b=>by cases a<;>rfl,fun a b=>by cases a<;>rfl,fun a b=>by cases a<;>rfl⟩
theorem GH:(∀a b:Int,(¬a<b)<->b<=a)/\(∀a b:Int,(¬a<=b)<->b<a)/\(decide True=true)/\(decide False=false)/\(∀{J:Type} (a b:J),(bif true then a else b)=a)/\(∀{J:Type} (a b:J),(bif false then a else b)=b)/\
 (∀b:Bool,(true||b)=true)/\(∀b:Bool,(b||true)=true)/\(∀b:Bool,(false||b)=b)/\(∀b:Bool,(b||false)=b)/\(∀b:Bool,(true&&b)=b)/\(∀b:Bool,(b&&true)=b)/\(∀b:Bool,(false&&b)=false)/\(∀b:Bool,(b&&false)=false)/\
 (∀p:Prop,(True\/p)=True)/\(∀p:Prop,(p\/True)=True)/\(∀p:Prop,(False\/p)=p)/\(∀p:Prop,(p\/False)=p)/\(∀p:Prop,(True/\p)=p)/\(∀p:Prop,(p/\True)=p)/\(∀p:Prop,(False/\p)=False)/\(∀p:Prop,(p/\False)=False)/\
 ((¬True)=False)/\((¬False)=True)/\((false=true)=False)/\((true=false)=False)/\(∀p q:Prop,(¬(p\/q))<->(¬p/\¬q))/\(∀p q:Prop,(¬(p/\q))<->(p->¬q))/\(∀p:Prop,(¬ ¬p)<->p):=
 ⟨fun a b=>Int.not_lt,fun a b=>Int.not_le,by simp,by simp,fun a b=>rfl,fun a b=>rfl,fun b=>by simp,fun b=>by simp,fun b=>by simp,fun b=>by simp,fun b=>by simp,fun b=>by simp,fun b=>by simp,fun b=>by simp,fun p=>by simp,fun p=>by simp,fun p=>by simp,fun p=>by simp,fun p=>by simp,fun p=>by simp,fun p=>by simp,fun p=>by simp,
  by simp,by simp,by simp,by simp,fun p q=>by simp,fun p q=>by simp,fun p=>Classical.not_not⟩
theorem qL:(∀{J:Type} (a:J) (l:List J),(a::l).length=l.length+1)/\(∀{J:Type},([]:List J).length=0)/\(∀{J:Type} (a b:List J),(a++b).length=a.length+b.length)/\(∀p:Prop,(True/\p)=p)/\(∀p:Prop,(p/\True)=p):=
 ⟨fun a l=>rfl,rfl,fun a b=>zg,fun p=>by simp,fun p=>by simp⟩
theorem Zm{xs:List (List SV)}{m n k b:Nat}(B:Nat)(hb:Nat.ble b B=true)(hB:Nat.ble 1 B=true)(h1:xs.length=m)(h2:n<=k)(h3:min (2*(n+m)) ((n+m)+(n+m)/4+192)*B<=281474976710656):xs.length=m/\n<=k/\n+m<=9223372036854775807/\min (2*(n+m)) ((n+m)+(n+m)/4+192)*b<=281474976710656:=by
 have hb:=zT hb;have hB:=zT hB;refine⟨h1,h2,?_,zP (Nat.mul_le_mul_left _ hb) h3⟩;have:n+m<=min (2*(n+m)) ((n+m)+(n+m)/4+192)*B:=zP (by omega) (Nat.le_mul_of_pos_right _ hB);omega
theorem GI{O:w9}{b:qP}{r len:Nat}{lim:Option Nat}{n:Nat}(h:n<=len):(n:Int)<=(reach O b r len lim:Nat):=by
 have:len<=reach O b r len lim:=by
  unfold reach;split
  exact zo _
  .split
   exact Nat.le_max_left _ _;exact zo _
 omega
end Go.Sx
namespace Go.Our
open Go.Sx
abbrev Sm(s:List UInt8):Prop:=s.length<=1152921504606846976
abbrev bn(c:UInt8):Int:=(c.toNat:Int)
theorem mT(c:UInt8):0<=bn c/\bn c<256:=by
 have:=c.toNat_lt;unfold bn;omega
theorem ZL(s:List UInt8)(i:Int):0<=Z1 s i/\Z1 s i<256:=mT _
def Y6(r:Int):Prop:=0<=r/\r<=1114111/\(r<55296\/57343<r)
instance (r:Int):Decidable (Y6 r):=by unfold Y6;infer_instance
def UD(r:Int):Bool:=decide (Y6 r)
theorem YT{r:Int}:UD r=true<->0<=r/\r<=1114111/\(r<55296\/57343<r):=yy
theorem L7{r:Int}:UD r=false<->¬(0<=r/\r<=1114111/\(r<55296\/57343<r)):=ym
def rj(c:Int):Int×Int:=
 if c<128 then(1,c)else if c<192 then(0,0)else if c<224 then(2,c%32)else if c<240 then(3,c%16)else if c<248 then(4,c%8)else(0,0)
def GJ(n:Int):Int:=if n=2 then 128 else if n=3 then 2048 else if n=4 then 65536 else 0
theorem Zjq:GJ 1=0:=rfl
theorem Zjr:GJ 2=128:=rfl
theorem Zjs:GJ 3=2048:=rfl
theorem Zjt:GJ 4=65536:=rfl
def r2(a b:Int):Int:=a%32*64+b%64
def r3(a b c:Int):Int:=(a%16*64+b%64)*64+c%64
def r4(a b c d:Int):Int:=((a%8*64+b%64)*64+c%64)*64+d%64
def fW(m a b c d:Int):Int×Int:=
 if a<128 then(a,1)
 else if a<192 then(0,0)
 else if a<224 then
  if 2<=m/\(128<=b/\b<192)/\128<=r2 a b then(r2 a b,2)else(0,0)
 else if a<240 then
  if 3<=m/\(128<=b/\b<192)/\(128<=c/\c<192)/\2048<=r3 a b c/\(r3 a b c<55296\/57343<r3 a b c)then(r3 a b c,3)else(0,0)
 else if a<248 then
  if 4<=m/\(128<=b/\b<192)/\(128<=c/\c<192)/\(128<=d/\d<192)/\65536<=r4 a b c d/\r4 a b c d<=1114111 then(r4 a b c d,4)else(0,0)
 else(0,0)
def Z7(s:List UInt8)(i:Int):Int×Int:=if i<0\/(s.length:Int)<=i then(0,0)else fW (s.length-i) (Z1 s i) (Z1 s (i+1)) (Z1 s (i+2)) (Z1 s (i+3))
theorem Zlc(m a b c d:Int)(h:1<=m):(fW m a b c d).2=0\/1<=(fW m a b c d).2/\(fW m a b c d).2<=4/\(fW m a b c d).2<=m:=by
 unfold fW
 (repeat' split)<;>simp<;>omega
theorem Y7(s:List UInt8)(i:Int):(Z7 s i).2=0\/1<=(Z7 s i).2/\(Z7 s i).2<=4/\(Z7 s i).2<=s.length-i:=by
 unfold Z7;split
 simp;exact Zlc _ _ _ _ _ (by omega)
def fD(s:List UInt8)(i:Nat):Int:=
 if h:i<s.length/\(Z7 s i).2≠0 then fD s (i+(Z7 s i).2.toNat)else if i<s.length then i else-1
termination_by s.length-i
decreasing_by have:=Y7 s i;omega
theorem B3{s:List UInt8}{i:Nat}(h:s.length<=i):fD s i= -1:=by
 rw[fD,yK (by omega),z7 (by omega)]
theorem GK{s:List UInt8}{i:Nat}(h:i<s.length)(h0:(Z7 s i).2=0):fD s i=i:=by
 rw[fD,yK (by simp[h0]),zh h]
theorem WJ{s:List UInt8}{i:Nat}(h:i<s.length)(h0:(Z7 s i).2≠0):fD s i=fD s (i+(Z7 s i).2.toNat):=by
 rw[fD,yg ⟨h,h0⟩]
theorem B4(s:List UInt8)(i:Nat): -1<=fD s i:=by
 induction i using fD.induct s with
 |case1 i h ih=>rw[WJ h.1 h.2];exact ih
 |case2 i h hlt=>
  have:(Z7 s i).2=0:=by
   apply xY;intro hh;exact h ⟨hlt,hh⟩
  rw[GK hlt this];omega
 |case3 i h hlt=>rw[B3 (by omega)];omega
theorem Zaa(c:Int):(c<128/\rj c=(1,c))\/((128<=c/\c<192\/248<=c)/\rj c=(0,0))\/((192<=c/\c<224)/\rj c=(2,c%32))\/((224<=c/\c<240)/\rj c=(3,c%16))\/((240<=c/\c<248)/\rj c=(4,c%8)):=by
 unfold rj
 (repeat' split)<;>simp<;>omega
theorem Kh{p:Int->Bool}(h:(List.range 256).all (fun n=>p (n:Int))=true){c:Int}(h0:0<=c/\c<256):p c=true:=by
 have:=zR.1 h c.toNat (yh.2 (by omega));rwa [show((c.toNat:Nat):Int)=c by omega]at this
theorem E1{c:Int}(h:0<=c/\c<256):kr .u8 c 31=c%32:=by
 have:=Kh (p:=fun n=>kr .u8 n 31==n%32) (by decide+kernel) h;simpa using this
theorem L9{c:Int}(h:0<=c/\c<256):kr .u8 c 15=c%16:=by
 have:=Kh (p:=fun n=>kr .u8 n 15==n%16) (by decide+kernel) h;simpa using this
theorem GL{c:Int}(h:0<=c/\c<256):kr .u8 c 7=c%8:=by
 have:=Kh (p:=fun n=>kr .u8 n 7==n%8) (by decide+kernel) h;simpa using this
theorem Zmk{c:Int}(h:0<=c/\c<256):kr .u8 c 63=c%64:=by
 have:=Kh (p:=fun n=>kr .u8 n 63==n%64) (by decide+kernel) h;simpa using this
theorem Zle{c:Int}(h:0<=c/\c<256):kr .u8 c 192=c/64*64:=by
 have:=Kh (p:=fun n=>kr .u8 n 192==n/64*64) (by decide+kernel) h;simpa using this
theorem E2(w n:Nat):(BitVec.ofInt w (n:Int)).toNat=n%2^w:=by
 rw[BitVec.toNat_ofInt];norm_cast
theorem Zlf{k:IntKind}{a b i:Nat}(hb:b<2^i)(h:a*2^i+b<2^k.bits):oV k ((a*2^i:Nat):Int) (b:Int)=k.wrap ((a*2^i+b:Nat):Int):=by
 unfold oV
 have h1:(BitVec.ofInt k.bits ((a*2^i:Nat):Int)|||BitVec.ofInt k.bits (b:Int)).toNat=a*2^i+b:=by
  rw[BitVec.toNat_or,E2,E2,xy (by omega),xy (by omega)];rw[<-Nat.shiftLeft_eq,Nat.shiftLeft_add_eq_or_of_lt hb]
 rw[h1]
theorem La{x c:Int}(hx:0<=x/\x<16777216)(hc:0<=c/\c<256):oV .i32 (ax .i32 x 6) (IntKind.i32.wrap (kr .u8 c 63))=x*64+c%64:=by
 rw[Zmk hc,Zn (by omega) (by omega)]
 have h1:ax .i32 x 6=((x.toNat*2^6:Nat):Int):=by
  unfold ax;rw[show(min (Int.toNat 6) (IntKind.i32.bits))=6 by decide,show x*2^6=x*64 by rfl,Zn (by omega) (by omega)];omega
 have h2:c%64=(((c%64).toNat:Nat):Int):=by omega
 rw[h1,h2,Zlf (by omega) (by show _<2^32;omega),Zn (by omega) (by omega)];omega
structure Tm where
 k:Int
 t:List UInt8
 y:List UInt8
 l:List UInt8
 deriving DecidableEq
structure Qd where
 s:Tm
 p:Tm
 o:Tm
 g:Tm
 deriving DecidableEq
abbrev gW(x:Tm):Prop:=Sm x.t/\Sm x.y/\Sm x.l
abbrev bT(q:Qd):Prop:=gW q.s/\gW q.p/\gW q.o/\gW q.g
def Tm.sv(x:Tm):SV:= .agg [.int .i64 x.k, .str x.t, .str x.y, .str x.l]
def Qd.sv(q:Qd):SV:= .agg [.int .i64 q.s.k, .str q.s.t, .str q.s.y, .str q.s.l, .int .i64 q.p.k, .str q.p.t, .str q.p.y, .str q.p.l, .int .i64 q.o.k, .str q.o.t, .str q.o.y, .str q.o.l, .int .i64 q.g.k, .str q.g.t, .str q.g.y, .str q.g.l]
def YN:Tm:=⟨0,[],[],[]⟩
end Go.Our
namespace Go.Sx
open Go
def mW(σ:Nat->Nat)(fr:Fr):Fr->Prop
 | []=>True
 |(t,v)::r=>match wu t fr with
  |some u=>u=wR σ v/\mW σ fr r
  |none=>False
def GM(σ:Nat->Nat)(O:w9):w9->Prop
 | []=>True
 |(i,h)::r=>match wu (σ i) O with
  |some g=>g=wJ σ h/\GM σ O r
  |none=>False
theorem Lf{σ:Nat->Nat}{m:Nat}{fr:Fr}:∀{fr':Fr},mW σ fr fr'->UB m fr'=true->bp σ m fr fr'
 | [],_,_=>trivial
 |(t,v)::r,h,b=>by
  simp only[mW]at h;simp only[UB,zk]at b;split at h
  .rename_i u hu;obtain⟨rfl,h⟩:=h;exact⟨⟨hu,b.1⟩,Lf h b.2⟩
  exact h.elim
theorem Lg{σ:Nat->Nat}{m:Nat}{O:w9}:∀{O':w9},GM σ O O'->Zj m O'=true->n9 σ m O O'
 | [],_,_=>trivial
 |(t,v)::r,h,b=>by
  simp only[GM]at h;simp only[Zj,zk]at b;split at h
  .rename_i u hu;obtain⟨rfl,h⟩:=h;exact⟨⟨b.1,hu,b.2.1⟩,Lg h b.2.2⟩
  exact h.elim
theorem w5.wV{M:Mx}{fr:Fr}{O:w9}{nx k:Nat}{fr':Fr}{O':w9}(hk:M.η0.length=k)(J:List Nat)(hτ:J.all (fun i=>Nat.blt i nx)=true)
 (hn:(Zd O').all (fun j=>(Zd O').all fun j'=>!(Nat.beq (YL k J j) (YL k J j'))||Nat.beq j j')=true)
 (Q5:UB (k+J.length) fr'=true) (Q6:Zj (k+J.length) O'=true) (hf:mW (YL k J) fr fr') (hO:GM (YL k J) O O') (hd:tu fr fr'=true:=by rfl) (hro:tv M.C.ro (YL k J) (k+J.length)=true:=by rfl):w5 M fr O nx fr' O' (k+J.length):=
 w5.keep hk J hτ (Lf hf Q5) (Lg hO Q6) hn hd hro
theorem Ya{b b':qP}{r es n n':Nat}{lim:Option Nat}(hb:b=b')(hn:n=n'):SV.sl b r es n lim=SV.sl b' r es n' lim:=by rw[hb,hn]
theorem Zl{es:Nat}{rs rs':List (List SV)}{σ:Nat->Nat}(hp:Zp rs'=true)(h:rs=rs'):Hp.rows es rs=wJ σ (.rows es rs'):=by rw[Zu σ (h:= .rows es rs') hp,h]
theorem wh.GN{M:Mx}{O:w9}{nx k:Nat}{r:SV}{Q:SV->w9->Nat->Prop}(hk:M.η0.length=k)(i es len:Nat){rs:List (List SV)}{vs:List SV}(hr:r= .wM (.sl (.loc i) 0 es len none::vs))(hO:wu i O=some (.rows es rs))(hi:Nat.blt i nx=true)(hp:Zp rs=true)(hv:YM vs=true)
 (hQ:Q (.wM (.sl (.loc k) 0 es len none::vs)) [(k, .rows es rs)] (k+1)):wh M O nx r Q:=by
 have hi:i<nx:=by simpa[yS]using hi
 have hf:YL k [i] k=i:=by simp[YL]
 refine wh.keep hk [i] (rc:= .wM (.sl (.loc k) 0 es len none::vs)) (Oc:=[(k, .rows es rs)]) (fun j hj=>by simp at hj;omega) (by rw[hr];simp only[wR,qg,qo,hf,ZN _ hv]) (by simp[ZV,ZO,r5,yS,ZF _ hv]) ?_ ?_ hQ
 .intro p hp';simp only[zL]at hp';subst hp';refine⟨by simp,?_,by simp only[Zi,Z2 _ hp]⟩;simp only[wJ,hf,Zb _ hp,hO]
 .intro j hj j' hj' _;simp[Zd]at hj hj';omega
theorem uX.mono{P:Program}{T:kE}{f:FuncId}{k:Nat}{args:List SV}{O S:w9}{Q Q':SV->w9->Nat->Prop}(h:uX P T f k args O S Q)(hq:∀r O nx,Q r O nx->Q' r O nx):uX P T f k args O S Q':=
 ⟨fun M vs h1 h2 h3 h4 h5 h6=>(h.out M vs h1 h2 h3 h4 h5 h6).mono fun v w' ⟨r,O',w8,η',a,b⟩=>⟨r,O',w8,η',hq _ _ _ a,b⟩⟩
def Q8(es:Nat)(rs:List (List SV))(vs:List SV):SV->w9->Nat->Prop:=fun r O nx=>r= .wM (.sl (.loc 0) 0 es rs.length none::vs)/\O=[(0, .rows es rs)]/\nx=1
theorem CALL.B8{M:Mx}{O:w9}{nx:Nat}{f:FuncId}{args:List SV}{K:SV->w9->Nat->Prop}{es:Nat}{rs:List (List SV)}{vs:List SV}(sp:uX M.P M.C.T f 0 args [] [] (Q8 es rs vs))(hp:YM args=true)(eV:Zp rs=true)(hvs:YM vs=true)
 (hK:K (.wM (.sl (.loc nx) 0 es rs.length none::vs)) ((nx, .rows es rs)::O) (nx+1)):CALL M f args O nx K:=by
 refine CALL.of [] sp rfl (fun i hi=>by cases hi) (ZN _ hp).symm (ZF 0 hp) (fun p hp=>by cases hp) (fun j hj=>by cases hj) (fun p hp=>by cases hp) ?_;rintro r' O' w8 ⟨rfl,rfl,rfl⟩;simp only[wR,qg,qo,kJ,wJ,Zb _ eV,ZN _ hvs,E0 (L:=[]) (nx:=nx) (k:=0) rfl,Zd,yH,XE,List.cons_append,List.nil_append];exact hK
def rX(es:Nat)(rs:List (List SV)):SV->w9->Nat->Prop:=fun r O nx=>r= .sl (.loc 0) 0 es rs.length none/\O=[(0, .rows es rs)]/\nx=1
theorem CALL.Q9{M:Mx}{O:w9}{nx:Nat}{f:FuncId}{args:List SV}{K:SV->w9->Nat->Prop}{es:Nat}{rs:List (List SV)}(sp:uX M.P M.C.T f 0 args [] [] (rX es rs))(hp:YM args=true)(eV:Zp rs=true)
 (hK:K (.sl (.loc nx) 0 es rs.length none) ((nx, .rows es rs)::O) (nx+1)):CALL M f args O nx K:=by
 refine CALL.of [] sp rfl (fun i hi=>by cases hi) (ZN _ hp).symm (ZF 0 hp) (fun p hp=>by cases hp) (fun j hj=>by cases hj) (fun p hp=>by cases hp) ?_;rintro r' O' w8 ⟨rfl,rfl,rfl⟩;simp only[wR,qo,kJ,wJ,Zb _ eV,E0 (L:=[]) (nx:=nx) (k:=0) rfl,Zd,yH,XE,List.cons_append,List.nil_append];exact hK
end Go.Sx
namespace Go.Our
open Go.Sx
def encI(r:Int):List Int:=
 if r<128 then [r]else if r<2048 then [192+r/64,128+r%64]else if r<65536 then [224+r/4096,128+r/64%64,128+r%64]
 else [240+r/262144,128+r/4096%64,128+r/64%64,128+r%64]
def rZ(x:Int):UInt8:=UInt8.ofNat x.toNat
def kz(r:Int):List UInt8:=(encI r).map rZ
def fF:List UInt8->Int
 | [a]=>bn a
 | [a,b]=>(bn a-192)*64+bn b-128
 | [a,b,c]=>((bn a-224)*64+bn b-128)*64+bn c-128
 | [a,b,c,d]=>(((bn a-240)*64+bn b-128)*64+bn c-128)*64+bn d-128
 |_=> -1
def Ye(l:List UInt8):Int:=if Y6 (fF l)/\kz (fF l)=l then fF l else-1
theorem LJ{a b:Int}(h:0<=a):a.tdiv b=a/b:=yZ h
theorem LK{a b:Int}(h:0<=a):a.tmod b=a%b:=xW h
theorem Bc{a:Int}(h1:0<=a)(h2:a<=255):IntKind.u8.wrap a=a:=IntWalk.u8_in _ ⟨h1,h2⟩
theorem Bd{x:Int}(h:0<=x/\x<256):((rZ x).toNat:Int)=x:=by
 unfold rZ;rw[xG (by show x.toNat<256;omega)];omega
theorem LL{x:Int}(h:0<=x/\x<256):[SV.int .u8 x]=Sx.bytesRow (rZ x):=by
 unfold Sx.bytesRow;rw[Bd h]
theorem ZeY(a:UInt8):rZ (bn a)=a:=by unfold rZ bn;simp
theorem LM{r:Int}(h:0<=r/\r<=1114111):∀x∈encI r,0<=x/\x<256:=by
 unfold encI
 (repeat' split)<;>simp<;>omega
theorem LN:∀{l:List Int},(∀x∈l,0<=x/\x<256)->(l.map rZ).map bn=l
 | [],_=>rfl
 |x::l,h=>by
  simp only[zI];rw[LN (fun y hy=>h y (zV _ hy))];unfold bn;rw[Bd (h x (y5 ..))]
theorem LO:∀l:List UInt8,(l.map bn).map rZ=l
 | []=>rfl
 |x::l=>by simp only[zI,ZeY,LO l]
theorem LP{r:Int}(h:0<=r/\r<=1114111)(l:List UInt8):kz r=l<->encI r=l.map bn:=by
 unfold kz;constructor
 rintro rfl;rw[LN (LM h)];intro e;rw[e,LO]
theorem WN{l:List UInt8}(h:Y6 (fF l))(e:encI (fF l)=l.map bn):Ye l=fF l:=by
 unfold Ye;exact zh ⟨h,(LP ⟨h.1,h.2.1⟩ l).2 e⟩
theorem WO{l:List UInt8}(h:Y6 (fF l)->encI (fF l)=l.map bn->False):Ye l= -1:=by
 unfold Ye;exact z7 fun⟨h1,h2⟩=>h h1 ((LP ⟨h1.1,h1.2.1⟩ l).1 h2)
theorem Zli(a:UInt8):Ye [a]=if bn a<128 then bn a else-1:=by
 have ha:=mT a;have hw:fF [a]=bn a:=rfl;by_cases h:bn a<128
 .rw[zh h,WN];omega;unfold Y6;omega
  .rw[hw];unfold encI;simp(disch:=omega) only[↓zh,↓z7,zI,yH,yJ,xo];try omega
 .rw[z7 h,WO];intro h1 h2;unfold Y6 at h1;rw[hw]at h2;unfold encI at h2;apply h
  (repeat'(split at h2))<;>simp at h2<;>omega
theorem Zlj(a b:UInt8):Ye [a,b]=if(192<=bn a/\bn a<224)/\(128<=bn b/\bn b<192)/\128<=r2 (bn a) (bn b)then r2 (bn a) (bn b)else-1:=by
 have ha:=mT a;have hb:=mT b;have hw:fF [a,b]=(bn a-192)*64+bn b-128:=rfl;have hr:r2 (bn a) (bn b)=bn a%32*64+bn b%64:=rfl;by_cases h:(192<=bn a/\bn a<224)/\(128<=bn b/\bn b<192)/\128<=r2 (bn a) (bn b)
 .rw[zh h,WN];omega;unfold Y6;omega
  .rw[hw];unfold encI;simp(disch:=omega) only[↓zh,↓z7,zI,yH,yJ,xo];try omega
 .rw[z7 h,WO];intro h1 h2;unfold Y6 at h1;rw[hw]at h2;unfold encI at h2;apply h
  (repeat'(split at h2))<;>simp at h2<;>omega
theorem Zlk(a b c:UInt8):Ye [a,b,c]=if(224<=bn a/\bn a<240)/\(128<=bn b/\bn b<192)/\(128<=bn c/\bn c<192)/\2048<=r3 (bn a) (bn b) (bn c)/\(r3 (bn a) (bn b) (bn c)<55296\/57343<r3 (bn a) (bn b) (bn c))then r3 (bn a) (bn b) (bn c)else-1:=by
 have ha:=mT a;have hb:=mT b;have hc:=mT c;have hw:fF [a,b,c]=((bn a-224)*64+bn b-128)*64+bn c-128:=rfl;have hr:r3 (bn a) (bn b) (bn c)=(bn a%16*64+bn b%64)*64+bn c%64:=rfl;by_cases h:(224<=bn a/\bn a<240)/\(128<=bn b/\bn b<192)/\(128<=bn c/\bn c<192)/\2048<=r3 (bn a) (bn b) (bn c)/\(r3 (bn a) (bn b) (bn c)<55296\/57343<r3 (bn a) (bn b) (bn c))
 .rw[zh h,WN];omega;unfold Y6;omega
  .rw[hw];unfold encI;simp(disch:=omega) only[↓zh,↓z7,zI,yH,yJ,xo];try omega
 .rw[z7 h,WO];intro h1 h2;unfold Y6 at h1;rw[hw]at h2;unfold encI at h2;apply h
  (repeat'(split at h2))<;>simp at h2<;>omega
theorem Zll(a b c d:UInt8):Ye [a,b,c,d]=if(240<=bn a/\bn a<248)/\(128<=bn b/\bn b<192)/\(128<=bn c/\bn c<192)/\(128<=bn d/\bn d<192)/\65536<=r4 (bn a) (bn b) (bn c) (bn d)/\r4 (bn a) (bn b) (bn c) (bn d)<=1114111 then r4 (bn a) (bn b) (bn c) (bn d)else-1:=by
 have ha:=mT a;have hb:=mT b;have hc:=mT c;have hd:=mT d;have hw:fF [a,b,c,d]=(((bn a-240)*64+bn b-128)*64+bn c-128)*64+bn d-128:=rfl;have hr:r4 (bn a) (bn b) (bn c) (bn d)=((bn a%8*64+bn b%64)*64+bn c%64)*64+bn d%64:=rfl;by_cases h:(240<=bn a/\bn a<248)/\(128<=bn b/\bn b<192)/\(128<=bn c/\bn c<192)/\(128<=bn d/\bn d<192)/\65536<=r4 (bn a) (bn b) (bn c) (bn d)/\r4 (bn a) (bn b) (bn c) (bn d)<=1114111
 .rw[zh h,WN];omega;unfold Y6;omega
  .rw[hw];unfold encI;simp(disch:=omega) only[↓zh,↓z7,zI,yH,yJ,xo];try omega
 .rw[z7 h,WO];intro h1 h2;unfold Y6 at h1;rw[hw]at h2;unfold encI at h2;apply h
  (repeat'(split at h2))<;>simp at h2<;>omega
theorem Xb{s:List UInt8}{n:Nat}(h:n<s.length):s.drop n=s.getD n 0::s.drop (n+1):=by
 rw[zq h];simp[List.getD,h]
theorem Xu(s:List UInt8)(i:Int)(k:Nat)(hi:0<=i):bn (s.getD (i.toNat+k) 0)=Z1 s (i+k):=by
 unfold Z1 bn;rw[show(i+(k:Int)).toNat=i.toNat+k by omega]
section
variable {s:List UInt8}{i:Int}
theorem Zjw(h:0<=i/\i+1<=s.length):Ye ((s.drop i.toNat).take ((i+1).toNat-i.toNat))=if Z1 s i<128 then Z1 s i else-1:=by
 rw[show(i+1).toNat-i.toNat=1 by omega,Xb (by omega)];simp only[List.take_succ_cons,List.take_zero,Zli];have e0:=Xu s i 0 h.1;simp only[Nat.add_zero,Int.natCast_zero,uI]at e0;rw[e0]
theorem Zjx(h:0<=i/\i+2<=s.length):Ye ((s.drop i.toNat).take ((i+2).toNat-i.toNat))=if(192<=Z1 s i/\Z1 s i<224)/\(128<=Z1 s (i+1)/\Z1 s (i+1)<192)/\128<=r2 (Z1 s i) (Z1 s (i+1))then r2 (Z1 s i) (Z1 s (i+1))else-1:=by
 rw[show(i+2).toNat-i.toNat=2 by omega,Xb (by omega),Xb (n:=i.toNat+1) (by omega)];simp only[List.take_succ_cons,List.take_zero,Zlj];have e0:=Xu s i 0 h.1;have e1:bn (s.getD (i.toNat+1) 0)=Z1 s (i+1):=Xu s i 1 h.1;simp only[Nat.add_zero,Int.natCast_zero,uI]at e0;rw[e0,e1]
theorem Zjy(h:0<=i/\i+3<=s.length):Ye ((s.drop i.toNat).take ((i+3).toNat-i.toNat))=if(224<=Z1 s i/\Z1 s i<240)/\(128<=Z1 s (i+1)/\Z1 s (i+1)<192)/\(128<=Z1 s (i+2)/\Z1 s (i+2)<192)/\2048<=r3 (Z1 s i) (Z1 s (i+1)) (Z1 s (i+2))/\(r3 (Z1 s i) (Z1 s (i+1)) (Z1 s (i+2))<55296\/57343<r3 (Z1 s i) (Z1 s (i+1)) (Z1 s (i+2)))then r3 (Z1 s i) (Z1 s (i+1)) (Z1 s (i+2))else-1:=by
 rw[show(i+3).toNat-i.toNat=3 by omega,Xb (by omega),Xb (n:=i.toNat+1) (by omega),Xb (n:=i.toNat+1+1) (by omega)];simp only[List.take_succ_cons,List.take_zero,Zlk];have e0:=Xu s i 0 h.1;have e1:bn (s.getD (i.toNat+1) 0)=Z1 s (i+1):=Xu s i 1 h.1;have e2:bn (s.getD (i.toNat+1+1) 0)=Z1 s (i+2):=Xu s i 2 h.1;simp only[Nat.add_zero,Int.natCast_zero,uI]at e0;rw[e0,e1,e2]
theorem Zjz(h:0<=i/\i+4<=s.length):Ye ((s.drop i.toNat).take ((i+4).toNat-i.toNat))=if(240<=Z1 s i/\Z1 s i<248)/\(128<=Z1 s (i+1)/\Z1 s (i+1)<192)/\(128<=Z1 s (i+2)/\Z1 s (i+2)<192)/\(128<=Z1 s (i+3)/\Z1 s (i+3)<192)/\65536<=r4 (Z1 s i) (Z1 s (i+1)) (Z1 s (i+2)) (Z1 s (i+3))/\r4 (Z1 s i) (Z1 s (i+1)) (Z1 s (i+2)) (Z1 s (i+3))<=1114111 then r4 (Z1 s i) (Z1 s (i+1)) (Z1 s (i+2)) (Z1 s (i+3))else-1:=by
 rw[show(i+4).toNat-i.toNat=4 by omega,Xb (by omega),Xb (n:=i.toNat+1) (by omega),Xb (n:=i.toNat+1+1) (by omega),Xb (n:=i.toNat+1+1+1) (by omega)];simp only[List.take_succ_cons,List.take_zero,Zll];have e0:=Xu s i 0 h.1;have e1:bn (s.getD (i.toNat+1) 0)=Z1 s (i+1):=Xu s i 1 h.1;have e2:bn (s.getD (i.toNat+1+1) 0)=Z1 s (i+2):=Xu s i 2 h.1;have e3:bn (s.getD (i.toNat+1+1+1) 0)=Z1 s (i+3):=Xu s i 3 h.1;simp only[Nat.add_zero,Int.natCast_zero,uI]at e0;rw[e0,e1,e2,e3]
theorem Z8y(h:0<=i/\i<s.length):Z7 s i=if 0<=Ye ((s.drop i.toNat).take ((i+1).toNat-i.toNat))then(Ye ((s.drop i.toNat).take ((i+1).toNat-i.toNat)),1)else if 2<=s.length-i/\0<=Ye ((s.drop i.toNat).take ((i+2).toNat-i.toNat))then(Ye ((s.drop i.toNat).take ((i+2).toNat-i.toNat)),2)else if 3<=s.length-i/\0<=Ye ((s.drop i.toNat).take ((i+3).toNat-i.toNat))then(Ye ((s.drop i.toNat).take ((i+3).toNat-i.toNat)),3)else if 4<=s.length-i/\0<=Ye ((s.drop i.toNat).take ((i+4).toNat-i.toNat))then(Ye ((s.drop i.toNat).take ((i+4).toNat-i.toNat)),4)else(0,0):=by
 have e0:=ZL s i;have e1:=ZL s (i+1);have e2:=ZL s (i+2);have e3:=ZL s (i+3);have q2:r2 (Z1 s i) (Z1 s (i+1))=Z1 s i%32*64+Z1 s (i+1)%64:=rfl;have q3:r3 (Z1 s i) (Z1 s (i+1)) (Z1 s (i+2))=(Z1 s i%16*64+Z1 s (i+1)%64)*64+Z1 s (i+2)%64:=rfl;have q4:r4 (Z1 s i) (Z1 s (i+1)) (Z1 s (i+2)) (Z1 s (i+3))=((Z1 s i%8*64+Z1 s (i+1)%64)*64+Z1 s (i+2)%64)*64+Z1 s (i+3)%64:=rfl;have g1:=Zjw (s:=s) (i:=i) (by omega);have g2:=fun h2:i+2<=s.length=>Zjx (s:=s) (i:=i) ⟨h.1,h2⟩;have g3:=fun h3:i+3<=s.length=>Zjy (s:=s) (i:=i) ⟨h.1,h3⟩;have g4:=fun h4:i+4<=s.length=>Zjz (s:=s) (i:=i) ⟨h.1,h4⟩;generalize Ye ((s.drop i.toNat).take ((i+1).toNat-i.toNat))=x1 at*;generalize Ye ((s.drop i.toNat).take ((i+2).toNat-i.toNat))=x2 at*;generalize Ye ((s.drop i.toNat).take ((i+3).toNat-i.toNat))=x3 at*;generalize Ye ((s.drop i.toNat).take ((i+4).toNat-i.toNat))=x4 at*;unfold Z7 fW;rw[z7 (by omega)];generalize r2 (Z1 s i) (Z1 s (i+1))=y2 at*;generalize r3 (Z1 s i) (Z1 s (i+1)) (Z1 s (i+2))=y3 at*;generalize r4 (Z1 s i) (Z1 s (i+1)) (Z1 s (i+2)) (Z1 s (i+3))=y4 at*;generalize Z1 s i=a at*;generalize Z1 s (i+1)=b at*;generalize Z1 s (i+2)=c at*;generalize Z1 s (i+3)=d at*;by_cases c1:a<128
 .rw[zh c1]at g1⊢;rw[zh (show 0<=x1 by omega),g1]
 rw[z7 c1]at g1⊢;rw[z7 (show ¬0<=x1 by omega)];have key:a<192\/(192<=a/\a<224)\/(224<=a/\a<240)\/(240<=a/\a<248)\/248<=a:=by omega
 rcases key with ha|ha|ha|ha|ha
 .simp(disch:=omega) only[↓z7]at g2 g3 g4;simp(disch:=omega) only[↓zh,↓z7]
 .by_cases hq:(128<=b/\b<192)/\128<=y2
  all_goals simp(disch:=omega) only[↓z7,↓zh]at g2 g3 g4
  all_goals by_cases hm:2<=(s.length:Int)-i
  all_goals simp(disch:=omega) only[↓zh,↓z7]
  rw[g2 (by omega)]
 .by_cases hq:(128<=b/\b<192)/\(128<=c/\c<192)/\2048<=y3/\(y3<55296\/57343<y3)
  all_goals simp(disch:=omega) only[↓z7,↓zh]at g2 g3 g4
  all_goals by_cases hm:3<=(s.length:Int)-i
  all_goals simp(disch:=omega) only[↓zh,↓z7]
  rw[g3 (by omega)]
 .by_cases hq:(128<=b/\b<192)/\(128<=c/\c<192)/\(128<=d/\d<192)/\65536<=y4/\y4<=1114111
  all_goals simp(disch:=omega) only[↓z7,↓zh]at g2 g3 g4
  all_goals by_cases hm:4<=(s.length:Int)-i
  all_goals simp(disch:=omega) only[↓zh,↓z7]
  rw[g4 (by omega)]
 .simp(disch:=omega) only[↓z7]at g2 g3 g4;simp(disch:=omega) only[↓zh,↓z7]
end
abbrev ki(s:List UInt8)(i:Nat):Nat×Nat:=Utf8.decode ⟨s.toArray⟩ i
theorem Zhf(s:List UInt8)(j:Nat):((ByteArray.mk s.toArray).get! j).toNat=(s.getD j 0).toNat:=by
 unfold ByteArray.get!;simp[List.getD,u6]
 rfl
def aN(m b0 b1 b2 b3:Nat):Nat×Nat:=
 if b0<128 then(b0,1)
 else if b0/32=6/\1<m/\b1/64=2 then if 128<=b0%32*64+b1%64 then(b0%32*64+b1%64,2)else(65533,1)
 else if b0/16=14/\(1<m/\b1/64=2)/\(2<m/\b2/64=2)then
  if 2048<=b0%16*4096+b1%64*64+b2%64/\(b0%16*4096+b1%64*64+b2%64<55296\/57344<=b0%16*4096+b1%64*64+b2%64)then(b0%16*4096+b1%64*64+b2%64,3)else(65533,1)
 else if b0/8=30/\(1<m/\b1/64=2)/\(2<m/\b2/64=2)/\(3<m/\b3/64=2)then
  if 65536<=b0%8*262144+b1%64*4096+b2%64*64+b3%64/\b0%8*262144+b1%64*4096+b2%64*64+b3%64<=1114111 then(b0%8*262144+b1%64*4096+b2%64*64+b3%64,4)else(65533,1)
 else(65533,1)
theorem Uh(s:List UInt8)(i:Nat):ki s i=aN (s.length-i) (s.getD i 0).toNat (s.getD (i+1) 0).toNat (s.getD (i+2) 0).toNat (s.getD (i+3) 0).toNat:=by
 unfold ki Utf8.decode aN;simp only[Zhf,Nat.add_zero];have hsz:(ByteArray.mk s.toArray).size=s.length:=by simp[ByteArray.size]
 rw[hsz];generalize(s.getD i 0).toNat=b0;generalize(s.getD (i+1) 0).toNat=b1;generalize(s.getD (i+2) 0).toNat=b2;generalize(s.getD (i+3) 0).toNat=b3;have e:∀k,(i+k<s.length)=(k<s.length-i):=fun k=>by simp;omega
 simp only[zk,x5,yc,e,Utf8.valid,Utf8.runeError,yI,ge_iff_le];by_cases c1:b0<128
 simp[c1];by_cases c2:b0/32=6/\1<s.length-i/\b1/64=2
 simp[c1,c2];by_cases c3:b0/16=14/\(1<s.length-i/\b1/64=2)/\(2<s.length-i/\b2/64=2)
 .have GU:(b0/16=14/\(1<s.length-i/\b1/64=2))/\(2<s.length-i/\b2/64=2):=⟨⟨c3.1,c3.2.1⟩,c3.2.2⟩;rw[z7 c1,z7 c2,zh GU,z7 c1,z7 c2,zh c3];congr 1;simp;omega
 by_cases c4:b0/8=30/\(1<s.length-i/\b1/64=2)/\(2<s.length-i/\b2/64=2)/\(3<s.length-i/\b3/64=2)
 .have Be:((b0/8=30/\(1<s.length-i/\b1/64=2))/\(2<s.length-i/\b2/64=2))/\(3<s.length-i/\b3/64=2):=⟨⟨⟨c4.1,c4.2.1⟩,c4.2.2.1⟩,c4.2.2.2⟩;have GU:¬((b0/16=14/\(1<s.length-i/\b1/64=2))/\(2<s.length-i/\b2/64=2)):=fun h=>c3 ⟨h.1.1,h.1.2,h.2⟩;rw[z7 c1,z7 c2,z7 GU,zh Be,z7 c1,z7 c2,z7 c3,zh c4];congr 1;simp;omega
 .have Be:¬(((b0/8=30/\(1<s.length-i/\b1/64=2))/\(2<s.length-i/\b2/64=2))/\(3<s.length-i/\b3/64=2)):=fun h=>c4 ⟨h.1.1.1,h.1.1.2,h.1.2,h.2⟩;have GU:¬((b0/16=14/\(1<s.length-i/\b1/64=2))/\(2<s.length-i/\b2/64=2)):=fun h=>c3 ⟨h.1.1,h.1.2,h.2⟩;rw[z7 c1,z7 c2,z7 GU,z7 Be,z7 c1,z7 c2,z7 c3,z7 c4]
theorem E8(s:List UInt8)(i:Nat):1<=(ki s i).2:=by
 rw[Uh];unfold aN
 (repeat' split)<;>simp
theorem Bf(s:List UInt8)(i:Nat)(h:i<s.length):i+(ki s i).2<=s.length:=by
 rw[Uh];unfold aN
 (repeat' split)<;>simp<;>omega
theorem Bg(s:List UInt8)(i:Nat):Y6 ((ki s i).1:Int):=by
 have h:=(s.getD i 0).toNat_lt;rw[Uh];unfold aN Y6;generalize(s.getD i 0).toNat=b0 at*;generalize(s.getD (i+1) 0).toNat=b1 at*;generalize(s.getD (i+2) 0).toNat=b2 at*;generalize(s.getD (i+3) 0).toNat=b3 at*
 (repeat' split)<;>simp<;>omega
theorem WP{s:List UInt8}{i:Nat}(h:Z1 s i<128):ki s i=((Z1 s i).toNat,1):=by
 have e:Z1 s i=((s.getD i 0).toNat:Int):=rfl;rw[Uh];unfold aN;rw[e]at h⊢;clear e;generalize(s.getD i 0).toNat=b0 at*;generalize(s.getD (i+1) 0).toNat=b1 at*;generalize(s.getD (i+2) 0).toNat=b2 at*;generalize(s.getD (i+3) 0).toNat=b3 at*;rw[zh (by omega)];simp
theorem Bh{s:List UInt8}{i:Nat}(h:128<=Z1 s i):128<=(ki s i).1:=by
 have e:Z1 s i=((s.getD i 0).toNat:Int):=rfl;have l0:=(s.getD i 0).toNat_lt;rw[Uh];unfold aN;rw[e]at h;clear e;generalize(s.getD i 0).toNat=b0 at*;generalize(s.getD (i+1) 0).toNat=b1 at*;generalize(s.getD (i+2) 0).toNat=b2 at*;generalize(s.getD (i+3) 0).toNat=b3 at*
 (repeat' split)<;>simp<;>omega
theorem Bi{s:List UInt8}{i:Nat}(hi:i<s.length)(h:(Z7 s i).2≠0):((ki s i).1:Int)=(Z7 s i).1/\((ki s i).2:Int)=(Z7 s i).2:=by
 have l0:=(s.getD i 0).toNat_lt;have l1:=(s.getD (i+1) 0).toNat_lt;have l2:=(s.getD (i+2) 0).toNat_lt;have l3:=(s.getD (i+3) 0).toNat_lt;have e0:Z1 s i=((s.getD i 0).toNat:Int):=rfl;have e1:Z1 s ((i:Int)+1)=((s.getD (i+1) 0).toNat:Int):=rfl;have e2:Z1 s ((i:Int)+2)=((s.getD (i+2) 0).toNat:Int):=rfl;have e3:Z1 s ((i:Int)+3)=((s.getD (i+3) 0).toNat:Int):=rfl;rw[Uh];unfold Z7 fW r2 r3 r4 at h⊢;rw[z7 (show ¬((i:Int)<0\/(s.length:Int)<=i)by omega)]at h⊢;simp only[e0,e1,e2,e3]at h⊢;clear e0 e1 e2 e3;unfold aN;generalize(s.getD i 0).toNat=b0 at*;generalize(s.getD (i+1) 0).toNat=b1 at*;generalize(s.getD (i+2) 0).toNat=b2 at*;generalize(s.getD (i+3) 0).toNat=b3 at*;rcases(by omega:(b0:Int)<128\/(128<=(b0:Int)/\(b0:Int)<192)\/(192<=(b0:Int)/\(b0:Int)<224)\/(224<=(b0:Int)/\(b0:Int)<240)\/(240<=(b0:Int)/\(b0:Int)<248)\/248<=(b0:Int))with ha|ha|ha|ha|ha|ha
 simp(disch:=omega) only[↓zh,↓z7];simp;simp(disch:=omega) only[↓zh,↓z7]at h;simp at h
 .simp(disch:=omega) only[↓z7,↓zh]at h⊢;split at h
  .rename_i hc;simp(disch:=omega) only[↓z7,↓zh];simp<;>omega
  simp at h
 .simp(disch:=omega) only[↓z7,↓zh]at h⊢;split at h
  .rename_i hc;simp(disch:=omega) only[↓z7,↓zh];simp<;>omega
  simp at h
 .simp(disch:=omega) only[↓z7,↓zh]at h⊢;split at h
  .rename_i hc;simp(disch:=omega) only[↓z7,↓zh];simp<;>omega
  simp at h
 simp(disch:=omega) only[↓zh,↓z7]at h;simp at h
theorem Zf0{r:Int}(h:Y6 r):(Utf8.encode r).data.toList=kz r:=by
 unfold Y6 at h;have hv:Utf8.valid r=true:=by simp[Utf8.valid];omega
 obtain⟨n,rfl⟩:∃n:Nat,r=n:=⟨r.toNat,by omega⟩;unfold Utf8.encode kz encI rZ;simp only[hv,yR,Int.toNat_natCast];rcases(by omega:n<128\/(128<=n/\n<2048)\/(2048<=n/\n<65536)\/65536<=n)with c|c|c|c
 all_goals simp(disch:=omega) only[↓zh,↓z7,zI,yH]
 all_goals
  simp only[yJ,xo]
  (repeat'(first|rfl|refine⟨?_,?_⟩))<;>congr 1<;>omega
theorem Zhg{r:Int}(h:128<=r):2<=(kz r).length/\(kz r).length<=4:=by
 unfold kz encI
 (repeat' split)<;>simp<;>omega
theorem Zf1{r:Int}(hs:Y6 r)(h:128<=r):∀c∈kz r,128<=bn c:=by
 have hl:=LM ⟨hs.1,hs.2.1⟩;intro c hc;unfold kz at hc;obtain⟨x,hx,rfl⟩:=zY.1 hc;have:=hl x hx;unfold bn;rw[Bd this];unfold Y6 at hs;unfold encI at hx
 (repeat'(split at hx))<;>simp at hx<;>omega
def Barred(c:Int):Prop:=c<=32\/c=60\/c=62\/c=34\/c=123\/c=125\/c=124\/c=94\/c=96\/c=92
instance (c:Int):Decidable (Barred c):=by unfold Barred;infer_instance
def U0(c:Int):Bool:=decide (Barred c)
theorem LQ{c:Int}:U0 c=true<->Barred c:=yy
theorem Z6V{c:Int}:U0 c=false<->¬Barred c:=ym
def bars:List UInt8:=[60,62,34,123,125,124,94,96,92]
def eY(p:Int->Bool)(s:List UInt8)(i:Nat):Int:=
 if h:i<s.length then if p ((ki s i).1:Int)then i else eY p s (i+(ki s i).2)else-1
termination_by s.length-i
decreasing_by have:=E8 s i;omega
theorem LR{p:Int->Bool}{s:List UInt8}{i:Nat}(h:s.length<=i):eY p s i= -1:=by rw[eY,yK (by omega)]
theorem LS{p:Int->Bool}{s:List UInt8}{i:Nat}(h:i<s.length)(hp:p ((ki s i).1:Int)=true):eY p s i=i:=by rw[eY,yg h,zh hp]
theorem Bj{p:Int->Bool}{s:List UInt8}{i:Nat}(h:i<s.length)(hp:p ((ki s i).1:Int)=false):eY p s i=eY p s (i+(ki s i).2):=by
 conv=>lhs;rw[eY]
 rw[yg h,z7 (by simp[hp])]
def eZ(p:Int->Bool)(s:List UInt8)(i:Nat):Bool:=
 if h:i<s.length then p (Z1 s i)||eZ p s (i+1)else false
termination_by s.length-i
theorem Bk{p:Int->Bool}{s:List UInt8}{i:Nat}(h:s.length<=i):eZ p s i=false:=by rw[eZ,yK (by omega)]
theorem GV{p:Int->Bool}{s:List UInt8}{i:Nat}(h:i<s.length):eZ p s i=(p (Z1 s i)||eZ p s (i+1)):=by
 conv=>lhs;rw[eZ]
 rw[yg h]
theorem Zf3{p:Int->Bool}{s:List UInt8}{i n:Nat}(h:i+n<=s.length)(hp:∀k:Nat,k<n->p (Z1 s (i+k:Nat))=false):eZ p s i=eZ p s (i+n):=by
 induction n with
 |zero=>rfl
 |succ n ih=>
  rw[ih (by omega) (fun k hk=>hp k (by omega)),GV (by omega),hp n (by omega),xJ];rfl
theorem Zak{s:List UInt8}{i:Nat}(hi:i<s.length)(h:(Z7 s i).2≠0)(h1:128<=Z1 s i):∀k:Nat,k< (Z7 s i).2.toNat->128<=Z1 s (i+k:Nat):=by
 have e0:=ZL s i;have e1:=ZL s (i+1);have e2:=ZL s (i+2);have e3:=ZL s (i+3);unfold Z7 fW at h⊢;rw[z7 (show ¬((i:Int)<0\/(s.length:Int)<=i)by omega)]at h⊢;intro k hk
 have hb:(k=0/\Z1 s (i+k:Nat)=Z1 s i)\/(k=1/\Z1 s (i+k:Nat)=Z1 s (i+1))\/(k=2/\Z1 s (i+k:Nat)=Z1 s (i+2))\/(k=3/\Z1 s (i+k:Nat)=Z1 s (i+3))\/4<=k:=by
  rcases(by omega:k=0\/k=1\/k=2\/k=3\/4<=k)with rfl|rfl|rfl|rfl|h
  exact .inl ⟨rfl,rfl⟩;exact .inr (.inl ⟨rfl,rfl⟩);exact .inr (.inr (.inl ⟨rfl,rfl⟩));exact .inr (.inr (.inr (.inl ⟨rfl,rfl⟩)));exact .inr (.inr (.inr (.inr h)))
 generalize Z1 s (i+k:Nat)=x at*;generalize Z1 s i=a at*;generalize Z1 s (i+1)=b at*;generalize Z1 s (i+2)=c at*;generalize Z1 s (i+3)=d at*;rw[z7 (show ¬a<128 by omega)]at h hk
 (repeat'(split at hk))<;>simp at hk<;>omega
theorem Z8z(p:Int->Bool)(hp:∀c,128<=c->p c=false)(s:List UInt8)(i:Nat):fD s i= -1->(0<=eY p s i<->eZ p s i=true):=by
 induction i using fD.induct s with
 |case1 i h ih=>
  intro hc;rw[WJ h.1 h.2]at hc;have hn:=Y7 s i;have hd:=Bi h.1 h.2;have e0:=ZL s i;by_cases ha:Z1 s i<128
  .have hd':=WP ha;have h1:(Z7 s i).2=1:=by rw[hd']at hd;simp at hd;omega
   rw[GV h.1];by_cases hb:p (Z1 s i)=true
   .rw[LS h.1 (by rw[hd'];simp only;rw[show((Z1 s i).toNat:Int)=Z1 s i by omega];exact hb)];simp[hb]
   .have hb:p (Z1 s i)=false:=by simpa using hb
    rw[Bj h.1 (by rw[hd'];simp only;rw[show((Z1 s i).toNat:Int)=Z1 s i by omega];exact hb),hb,xJ];have:=ih hc;rw[h1]at this;rw[hd'];exact this
  .have ha:128<=Z1 s i:=by omega
   rw[Bj h.1 (hp _ (by have:=Bh ha;omega))];rw[Zf3 (n:=(Z7 s i).2.toNat) (by omega) (fun k hk=>hp _ (Zak h.1 h.2 ha k hk))];have:=ih hc;rw[show(ki s i).2=(Z7 s i).2.toNat by omega];exact this
 |case2 i h hlt=>
  intro hc
  have:(Z7 s i).2=0:=by
   apply xY;intro hh;exact h ⟨hlt,hh⟩
  rw[GK hlt this]at hc;omega
 |case3 i h hlt=>
  intro _;rw[LR (by omega),Bk (by omega)];simp
def dO(s:List UInt8):Int:=
 if 65536<s.length then 2 else if 0<=fD s 0 then 40 else if eZ U0 s 0 then 50 else 0
def J4(c:Int):Prop:=(97<=c/\c<=122)\/(65<=c/\c<=90)
def bU(c:Int):Prop:=(48<=c/\c<=57)\/c=43\/c=45\/c=46
instance (c:Int):Decidable (J4 c):=by unfold J4;infer_instance
instance (c:Int):Decidable (bU c):=by unfold bU;infer_instance
def jC(s:List UInt8)(i:Nat):Int:=
 if h:i<s.length then if Z1 s i=58 then i else if J4 (Z1 s i)\/i≠0/\bU (Z1 s i)then jC s (i+1)else 0 else 0
termination_by s.length-i
theorem E9{s:List UInt8}{i:Nat}(h:s.length<=i):jC s i=0:=by rw[jC,yK (by omega)]
theorem WQ{s:List UInt8}{i:Nat}(h:i<s.length)(hc:Z1 s i=58):jC s i=i:=by rw[jC,yg h,zh hc]
theorem Bl{s:List UInt8}{i:Nat}(h:i<s.length)(hc:¬Z1 s i=58)(hl:J4 (Z1 s i)\/i≠0/\bU (Z1 s i)):jC s i=jC s (i+1):=by
 conv=>lhs;rw[jC]
 rw[yg h,z7 hc,zh hl]
theorem Bm{s:List UInt8}{i:Nat}(h:i<s.length)(hc:¬Z1 s i=58)(hl:¬(J4 (Z1 s i)\/i≠0/\bU (Z1 s i))):jC s i=0:=by
 rw[jC,yg h,z7 hc,z7 hl]
theorem Zhh(s:List UInt8)(i:Nat):0<=jC s i/\jC s i<=s.length:=by
 induction i using jC.induct s with
 |case1 i h hc=>rw[WQ h hc];omega
 |case2 i h hc hl ih=>rw[Bl h hc hl];exact ih
 |case3 i h hc hl=>rw[Bm h hc hl];omega
 |case4 i h=>rw[E9 (by omega)];omega
def fZ(s:List UInt8):Int:=if dO s≠0 then dO s else if jC s 0=0 then 51 else 0
theorem LU{c:UInt8}:∀{l:List UInt8},c∉l->Lib.indexByte l c= -1
 | [],_=>rfl
 |b::l,h=>by
  have h1:¬b=c:=fun e=>h (by rw[e];exact y5 ..);have h2:c∉l:=fun e=>h (zV _ e);unfold Lib.indexByte;rw[LU h2];simp[h1]
theorem Bn(i:Int):Z1 bars i<128:=by
 unfold Z1;by_cases h:i.toNat<9
 .have:∀n:Nat,n<9->((bars.getD n 0).toNat:Int)<128:=by decide
  exact this _ h
 .have:bars.getD i.toNat 0=0:=by simp[List.getD,bars];rw[zS (by simp;omega)];rfl
  rw[this];decide
theorem Zhi:∀c∈bars,c.toNat<128:=by decide
theorem ZcX{s:List UInt8}{i:Int}(h:0<=i/\i<s.length):∃c∈s,Z1 s i=bn c:=by
 have:i.toNat<s.length:=by omega
 refine⟨s[i.toNat],zm this,?_⟩;unfold Z1 bn;simp[List.getD,this]
theorem Zhj{l:List UInt8}{c:Int}(h:128<=c/\c<256)(hl:∀b∈l,b.toNat<128):Lib.indexByte l c.toNat.toUInt8= -1:=by
 apply LU;intro hm;have h1:=hl _ hm
 have:c.toNat.toUInt8.toNat=c.toNat:=by
  rw[Nat.toUInt8_eq,xG (by show c.toNat<256;omega)]
 omega
def mZ(r:Int):Prop:=(65<=r/\r<=90)\/(97<=r/\r<=122)\/(192<=r/\r<=214)\/(216<=r/\r<=246)\/(248<=r/\r<=767)\/(880<=r/\r<=893)\/(895<=r/\r<=8191)\/(8204<=r/\r<=8205)\/(8304<=r/\r<=8591)\/(11264<=r/\r<=12271)\/(12289<=r/\r<=55295)\/(63744<=r/\r<=64975)\/(65008<=r/\r<=65533)\/(65536<=r/\r<=983039)
instance (r:Int):Decidable (mZ r):=by unfold mZ;infer_instance
def s4(r:Int):Prop:=mZ r\/r=95
instance (r:Int):Decidable (s4 r):=by unfold s4;infer_instance
def Wf(r:Int):Prop:=48<=r/\r<=57
instance (r:Int):Decidable (Wf r):=by unfold Wf;infer_instance
def Yi(r:Int):Prop:=s4 r\/Wf r\/r=45\/r=183\/(768<=r/\r<=879)\/r=8255\/r=8256
instance (r:Int):Decidable (Yi r):=by unfold Yi;infer_instance
def Vd(r:Int):Prop:=s4 r\/Wf r
instance (r:Int):Decidable (Vd r):=by unfold Vd;infer_instance
def js(s:List UInt8)(i e:Nat):Nat:=
 if h:(Z7 s i).2≠0/\((Z7 s i).1=46\/Yi (Z7 s i).1)then
  js s (i+(Z7 s i).2.toNat) (if(Z7 s i).1=46 then e else i+(Z7 s i).2.toNat)
 else e
termination_by s.length-i
decreasing_by
 have:=Y7 s i;omega
theorem Bo{s:List UInt8}{i e:Nat}(h:(Z7 s i).2≠0/\((Z7 s i).1=46\/Yi (Z7 s i).1)):js s i e=js s (i+(Z7 s i).2.toNat) (if(Z7 s i).1=46 then e else i+(Z7 s i).2.toNat):=by
 conv=>lhs;rw[js]
 rw[yg h]
theorem Bp{s:List UInt8}{i e:Nat}(h:¬((Z7 s i).2≠0/\((Z7 s i).1=46\/Yi (Z7 s i).1))):js s i e=e:=by
 rw[js,yK h]
theorem Zf4(s:List UInt8)(i e:Nat)(h:e<=i):e<=js s i e/\(i<=s.length->js s i e<=s.length):=by
 induction i,e using js.induct s with
 |case1 i e h1 ih=>
  have hn:=Y7 s i;rw[Bo h1];split
  .rename_i h2;rw[yg h2]at ih;have:=ih (by omega);exact⟨this.1,fun _=>this.2 (by omega)⟩
  .rename_i h2;rw[yK h2]at ih;have:=ih (by omega);exact⟨by omega,fun _=>this.2 (by omega)⟩
 |case2 i e h1=>rw[Bp h1];exact⟨by omega,fun _=>by omega⟩
def runM(p:Int->Prop)[DecidablePred p](s:List UInt8)(i:Int):Int:=
 if(Z7 s i).2=0\/¬p (Z7 s i).1 then 0 else(js s (i.toNat+(Z7 s i).2.toNat) (i.toNat+(Z7 s i).2.toNat):Int)-i
def s5(s:List UInt8)(i:Nat):Bool:=
 if h:(Z7 s i).2≠0 then
  decide ((Z7 s i).1=46\/Yi (Z7 s i).1)&&decide ((Z7 s i).1=46->i+(Z7 s i).2.toNat≠s.length)&&s5 s (i+(Z7 s i).2.toNat)
 else decide (s.length<=i)
termination_by s.length-i
decreasing_by have:=Y7 s i;omega
theorem ZcY:¬Yi 46:=by unfold Yi s4 mZ Wf;omega
theorem WR{s:List UInt8}{i:Nat}(h:s.length<=i):(Z7 s i).2=0:=by unfold Z7;rw[zh (by omega)]
theorem ZcZ(s:List UInt8)(i e:Nat)(h:e<=i)(hi:i<=s.length):js s i e=s.length<->(if i=s.length then e=s.length else s5 s i=true):=by
 induction i,e using js.induct s with
 |case1 i e h1 ih=>
  have hn:=Y7 s i;rw[Bo h1];rw[z7 (show ¬i=s.length by omega)];conv=>rhs;rw[s5]
  rw[yg h1.1];by_cases h2:(Z7 s i).1=46
  .rw[yg h2]at ih;rw[zh h2];rw[ih (by omega) (by omega)];split
   rename_i h3;simp[h2,h3];omega;rename_i h3;simp[h2,h3]
  .rw[yK h2]at ih;rw[z7 h2];rw[ih (by omega) (by omega)];have h4:Yi (Z7 s i).1:=by rcases h1.2 with h|h;exact(h2 h).elim;exact h
   split
   .rename_i h3;simp[h2,h3,h4];rw[s5,yK (by rw[WR (zo _)];simp)];simp
   rename_i h3;simp[h2,h4]
 |case2 i e h1=>
  rw[Bp h1];split
  exact xK
  .rename_i h2;rw[s5];by_cases h3:(Z7 s i).2≠0
   .rw[yg h3];have:¬((Z7 s i).1=46\/Yi (Z7 s i).1):=fun h=>h1 ⟨h3,h⟩;simp[this];omega
   rw[yK h3];simp;omega
def UT(s:List UInt8):Int:=if runM Vd s 0=0\/runM Vd s 0≠s.length then 60 else 0
def wB(s:List UInt8)(i:Nat):Option (List Int):=
 if h:i<s.length then if h0:(Z7 s i).2≠0 then(wB s (i+(Z7 s i).2.toNat)).map ((Z7 s i).1:: ·)else none else some []
termination_by s.length-i
decreasing_by have:=Y7 s i;omega
def YW:List Int->Bool
 | []=>true
 | [r]=>decide (Yi r)
 |r::q::l=>decide (Yi r\/r=46)&&YW (q::l)
theorem Z8B(s:List UInt8)(i:Nat)(hi:i<=s.length):s5 s i=(match wB s i with|some l=>YW l|none=>false):=by
 induction i using wB.induct s with
 |case1 i h h0 ih=>
  have hn:=Y7 s i;rw[s5,wB,yg h,yg h0,yg h0,ih (by omega)];by_cases h1:i+(Z7 s i).2.toNat=s.length
  .rw[h1];have:wB s s.length=some []:=by rw[wB,yK (by omega)]
   rw[this];simp only[Option.map_some,YW,zG];by_cases h2:(Z7 s i).1=46
   rw[h2];have:=ZcY;simp[this];simp[h2]
  .cases hc:wB s (i+(Z7 s i).2.toNat)with
   |none=>simp
   |some l=>
    cases l with
    |nil=>
     exfalso;rw[wB,yg (by omega)]at hc;split at hc
     cases hq:wB s (i+(Z7 s i).2.toNat+(Z7 s ((i+(Z7 s i).2.toNat:Nat):Int)).2.toNat)<;>rw[hq]at hc<;>simp at hc
     cases hc
    |cons q l=>
     simp only[Option.map_some,YW,h1,ne_eq,xe,implies_true,decide_true,zG];congr 1;simp only[vg];exact Or.comm
 |case2 i h h0=>
  rw[s5,wB,yK h0,yg h,yK h0];simp;omega
 |case3 i h=>
  rw[s5,wB,yK (by rw[WR (by omega)];simp),yK h];simp[YW];omega
def GX(s:List UInt8):Int:=match wB s 0 with
 |some (r::l)=>if Vd r/\YW l=true then 0 else 60
 |_=>60
theorem LX(s:List UInt8):UT s=GX s:=by
 unfold UT GX runM;have hn:=Y7 s 0;by_cases h:(0:Nat)<s.length
 .rw[wB,yg h];by_cases h0:(Z7 s 0).2≠0
  .have e:Z7 s ((0:Nat):Int)=Z7 s 0:=rfl;rw[yg (by rw[e];exact h0),e];have hr:=Z8B s (0+(Z7 s 0).2.toNat) (by omega);have hf:=ZcZ s (0+(Z7 s 0).2.toNat) (0+(Z7 s 0).2.toNat) (zo _) (by omega);have hg:=Zf4 s (0+(Z7 s 0).2.toNat) (0+(Z7 s 0).2.toNat) (zo _);rw[show(0:Int).toNat=0 from rfl];generalize js s (0+(Z7 s 0).2.toNat) (0+(Z7 s 0).2.toNat)=g at*;by_cases hl:Vd (Z7 s 0).1
   .rw[z7 (show ¬((Z7 s 0).2=0\/¬Vd (Z7 s 0).1)by simp[h0,hl])];by_cases h1:0+(Z7 s 0).2.toNat=s.length
    .rw[zh h1]at hf;have:wB s (0+(Z7 s 0).2.toNat)=some []:=by rw[wB,yK (by omega)]
     rw[this];simp only[Option.map_some,YW,hl,and_self,yR];rw[z7];have:=hf.2 h1;omega
    .rw[z7 h1,hr]at hf;cases hc:wB s (0+(Z7 s 0).2.toNat)with
     |none=>
      rw[hc]at hf;simp only[Option.map_none];rw[zh];simp at hf;omega
     |some l=>
      rw[hc]at hf;simp only[Option.map_some,hl,xV]at hf⊢;by_cases hs:YW l=true
      .rw[zh hs,z7];have:=hf.2 hs;omega
      .rw[z7 hs,zh];have:¬g=s.length:=fun h=>hs (hf.1 h);omega
   .rw[zh (show((Z7 s 0).2=0\/¬Vd (Z7 s 0).1)from .inr hl),zh (.inl rfl)];cases hc:wB s (0+(Z7 s 0).2.toNat)with
    |none=>rfl
    |some l=>simp[hl]
  .rw[yK (show ¬(Z7 s ((0:Nat):Int)).2≠0 from h0)];simp only[ne_eq,Decidable.not_not]at h0;rw[zh (show((Z7 s 0).2=0\/¬Vd (Z7 s 0).1)from .inl h0),zh (.inl rfl)]
 .rw[wB,yK h];have h0:(Z7 s 0).2=0:=WR (i:=0) (by omega);rw[zh (show((Z7 s 0).2=0\/¬Vd (Z7 s 0).1)from .inl h0),zh (.inl rfl)]
def jb(p:Int->Bool)(s:List UInt8)(i:Nat):Bool:=!eZ (fun c=>!p c) s i
theorem WS{p:Int->Bool}{s:List UInt8}{i:Nat}(h:s.length<=i):jb p s i=true:=by unfold jb;rw[Bk h];rfl
theorem JP{p:Int->Bool}{s:List UInt8}{i:Nat}(h:i<s.length):jb p s i=(p (Z1 s i)&&jb p s (i+1)):=by
 unfold jb;rw[GV h];simp
def Vf(c:Int):Bool:=decide (J4 c)
def XN(c:Int):Bool:=decide (Wf c)
def JU(pure:Bool)(c:Int):Bool:=Vf c||(!pure&&XN c)
def ZI(s:List UInt8)(least most:Int)(pure:Bool):Bool:=jb (JU pure) s 0&&decide (least<=s.length/\(s.length:Int)<=most)
theorem Z8E{c:Int}(h:128<=c):Vf c=false:=ye (by unfold J4;omega)
theorem Zao{c:Int}(h:128<=c):XN c=false:=ye (by unfold Wf;omega)
theorem R1{pure:Bool}{c:Int}(h:128<=c):JU pure c=false:=by unfold JU;rw[Z8E h,Zao h];simp
def Y1(s:List UInt8):Bool:=s==[120]||s==[88]
def Jr(s:List UInt8):Bool:=ZI s 5 8 false||ZI s 4 4 false&&XN (Z1 s 0)
def Xd(s:List UInt8):Bool:=ZI s 2 2 true||decide (s.length=3)&&XN (Z1 s 0)&&XN (Z1 s 1)&&XN (Z1 s 2)
def de(c:UInt8):UInt8:=if 65<=c.toNat/\c.toNat<=90 then UInt8.ofNat (c.toNat+32)else c
def Z9(s:List UInt8):List UInt8:=s.map de
theorem R2(p:Int->Bool)(c:UInt8):jb p [c] 0=p (bn c):=by
 rw[JP (by simp),WS (by simp),zG];rfl
def jQ(s:List UInt8)(i:Nat):List UInt8:=(s.map de).take i++s.drop i
theorem R3(s:List UInt8)(i:Nat):(jQ s i).length=s.length:=by unfold jQ;simp;omega
theorem R4(s:List UInt8):jQ s 0=s:=by simp[jQ]
theorem R5{s:List UInt8}{i:Nat}(h:s.length<=i):jQ s i=Z9 s:=by unfold jQ Z9;rw[zi (by simpa using h),zN h,zO]
theorem Zhk{s:List UInt8}{i:Nat}(h:i<s.length):(jQ s i)[i]?=some s[i]:=by
 unfold jQ;rw[zx (by simp;omega)];simp;rw[show min i s.length=i by omega];simp[h]
theorem Zhl{s:List UInt8}{i:Nat}(h:i<s.length):(jQ s i).set i (de s[i])=jQ s (i+1):=by
 unfold jQ;rw[xh _ _ (by simp;omega),zq h];simp only[zA,zu];rw[show i-min i s.length=0 by omega,List.set_cons_zero,zH (by simpa using h),yz,zM]
 rfl
theorem R6{s:List UInt8}{i:Nat}(h:i<s.length)(hc:de s[i]=s[i]):jQ s i=jQ s (i+1):=by
 unfold jQ;rw[zq h,zH (by simpa using h),yz,hc,zM]
 rfl
theorem Bq{s:List UInt8}{i:Nat}(h:i<s.length):((jQ s i).map Sx.bytesRow)[i]?=some (Sx.bytesRow s[i]):=by
 rw[z6,Zhk h];rfl
theorem R7{s:List UInt8}{i:Nat}(h:i<s.length):((jQ s i).map Sx.bytesRow).set i (Sx.bytesRow (de s[i]))=(jQ s (i+1)).map Sx.bytesRow:=by
 rw[<-xQ,Zhl h]
theorem R8{c:UInt8}(h:65<=(c.toNat:Int)/\(c.toNat:Int)<=90):[SV.int .u8 (IntKind.u8.wrap ((c.toNat:Int)+32))]=Sx.bytesRow (de c):=by
 unfold Sx.bytesRow de;rw[zh (by omega),Bc (by omega) (by omega),xG (by show c.toNat+32<256;omega)];simp
theorem Br{c:UInt8}(h:¬(65<=(c.toNat:Int)/\(c.toNat:Int)<=90)):de c=c:=by unfold de;rw[z7 (by omega)]
def kN:List UInt8:=[48,49,50,51,52,53,54,55,56,57,65,66,67,68,69,70]
def bV(k:Int):UInt8:=kN.getD k.toNat 0
def dQ(n:Int):List UInt8:=[bV (n/4096%16),bV (n/256%16),bV (n/16%16),bV (n%16)]
def Y8(way r:Int):List UInt8:=
 if way=1 then
  if r=8 then [92,98]else if r=9 then [92,116]else if r=10 then [92,110]else if r=12 then [92,102]else if r=13 then [92,114]else if r=34 then [92,34]else if r=92 then [92,92]
  else if r<32\/r=127 then [92,117]++dQ r else kz r
 else if Barred r then [92,117]++dQ r else kz r
theorem ZjD(r:Int):(kz r).length<=4:=by
 unfold kz encI
 (repeat' split)<;>simp
theorem Bx(way r:Int):(Y8 way r).length<=6:=by
 have:=ZjD r;unfold Y8
 (repeat' split)<;>simp[dQ]<;>omega
def qO(way:Int)(s:List UInt8)(i:Nat):List UInt8:=
 if h:i<s.length/\(Z7 s i).2≠0 then Y8 way (Z7 s i).1++qO way s (i+(Z7 s i).2.toNat)else []
termination_by s.length-i
decreasing_by have:=Y7 s i;omega
theorem Rn{way:Int}{s:List UInt8}{i:Nat}(h:s.length<=i):qO way s i=[]:=by rw[qO,yK (by omega)]
theorem Wi{way:Int}{s:List UInt8}{i:Nat}(h:i<s.length)(h0:(Z7 s i).2≠0):qO way s i=Y8 way (Z7 s i).1++qO way s (i+(Z7 s i).2.toNat):=by
 conv=>lhs;rw[qO]
 rw[yg ⟨h,h0⟩]
theorem Zar(way:Int)(s:List UInt8)(i:Nat):(qO way s i).length<=6*(s.length-i):=by
 induction i using qO.induct s with
 |case1 i h ih=>
  rw[Wi h.1 h.2];have h1:=Y7 s i;have h2:=Bx way (Z7 s i).1;simp only[zg];omega
 |case2 i h=>rw[qO,yK h];simp
def aP(way:Int)(s:List UInt8):List UInt8:=if 0<=fD s 0 then []else qO way s 0
theorem Ro{s:List UInt8}{i:Nat}(h:i<s.length)(hc:fD s i= -1):(Z7 s i).2≠0:=by
 intro h0;rw[GK h h0]at hc;omega
theorem Rp{s:List UInt8}{i:Nat}(h:i<s.length)(hn:(Z7 s i).2≠0):Y6 (Z7 s i).1:=by
 rw[<-(Bi h hn).1];exact Bg s i
theorem JE{k:Nat}{p:Int->Bool}(h:(List.range k).all (fun n=>p (n:Int))=true){c:Int}(h0:0<=c/\c<k):p c=true:=by
 have:=zR.1 h c.toNat (yh.2 (by omega));rwa [show((c.toNat:Nat):Int)=c by omega]at this
theorem Zmm{x:Int}(h:0<=x/\x<32):oV .i32 192 x=192+x:=by
 have:=JE (k:=32) (p:=fun n=>oV .i32 192 n==192+n) (by decide+kernel) h;simpa using this
theorem Zmn{x:Int}(h:0<=x/\x<16):oV .i32 224 x=224+x:=by
 have:=JE (k:=16) (p:=fun n=>oV .i32 224 n==224+n) (by decide+kernel) h;simpa using this
theorem Zmo{x:Int}(h:0<=x/\x<8):oV .i32 240 x=240+x:=by
 have:=JE (k:=8) (p:=fun n=>oV .i32 240 n==240+n) (by decide+kernel) h;simpa using this
theorem Zmp{x:Int}(h:0<=x/\x<64):oV .i32 128 x=128+x:=by
 have:=JE (k:=64) (p:=fun n=>oV .i32 128 n==128+n) (by decide+kernel) h;simpa using this
theorem Zlm{r:Int}(h:0<=r/\r<=2147483647):kr .i32 r 63=r%64:=by
 obtain⟨n,rfl⟩:∃n:Nat,r=n:=⟨r.toNat,by omega⟩;unfold kr
 have h2:(BitVec.ofInt IntKind.i32.bits (n:Int)&&&BitVec.ofInt IntKind.i32.bits 63).toNat=n%64:=by
  rw[BitVec.toNat_and,E2,show(63:Int)=((63:Nat):Int)from rfl,E2];show n%2^32&&&63%2^32=_
  rw[xy (by omega),xy (by omega),show(63:Nat)=2^6-1 from rfl,Nat.and_two_pow_sub_one_eq_mod]
 rw[h2,Zn (by omega) (by omega)];omega
theorem Bz{r:Int}(n:Nat)(hn:n<=32)(h:0<=r):je .i32 r (n:Int)=r/2^n:=by
 unfold je;rw[show min (Int.toNat (n:Int)) IntKind.i32.bits=n by show min _ 32=n;omega,vM _ (by exact Int.le_of_lt (Int.pow_pos (by omega)))]
theorem BA{r:Int}(h:0<=r):je .i32 r 6=r/64:=Bz 6 (by omega) h
theorem Zmq{r:Int}(h:0<=r):je .i32 r 12=r/4096:=Bz 12 (by omega) h
theorem Zmr{r:Int}(h:0<=r):je .i32 r 18=r/262144:=Bz 18 (by omega) h
theorem BB{n:Int}(h:0<=n/\n<256):[UInt8.ofNat (Z1 kN (kr .u64 (je .u64 n 12) 15)).toNat,UInt8.ofNat (Z1 kN (kr .u64 (je .u64 n 8) 15)).toNat,UInt8.ofNat (Z1 kN (kr .u64 (je .u64 n 4) 15)).toNat,UInt8.ofNat (Z1 kN (kr .u64 (je .u64 n 0) 15)).toNat]=dQ n:=by
 have:=Kh (p:=fun n=>[UInt8.ofNat (Z1 kN (kr .u64 (je .u64 n 12) 15)).toNat,UInt8.ofNat (Z1 kN (kr .u64 (je .u64 n 8) 15)).toNat,UInt8.ofNat (Z1 kN (kr .u64 (je .u64 n 4) 15)).toNat,UInt8.ofNat (Z1 kN (kr .u64 (je .u64 n 0) 15)).toNat]==dQ n) (by decide+kernel) h;simpa using this
def eL:List UInt8:=[116,98,110,114,102,34,39,92]
def Zln:List UInt8:=[9,8,10,13,12,34,39,92]
abbrev mIdx(r:Int):Int:=Lib.indexByte Zln (IntKind.u8.wrap r).toNat.toUInt8
abbrev s7(r:Int):Int:=Lib.indexByte bars (IntKind.u8.wrap r).toNat.toUInt8
theorem Rq{r:Int}(h:0<=r/\r<128)(h39:¬r=39)(hi:0<=mIdx r):mIdx r<8/\[92]++((eL.drop (mIdx r).toNat).take 1)=Y8 1 r:=by
 have:=JE (k:=128) (p:=fun n=>decide (n=39)||decide (mIdx n<0)||(decide (mIdx n<8)&& ([92]++((eL.drop (mIdx n).toNat).take 1))==Y8 1 n)) (by decide+kernel) h;simp only[yI,yc,zk,x5]at this;rcases this with(h1|h1)|h1
 exact absurd h1 h39;omega;exact h1
theorem Rr{r:Int}(h:0<=r/\r<128)(hi:mIdx r<0):Y8 1 r=if r<32\/r=127 then [92,117]++dQ r else kz r:=by
 have:=JE (k:=128) (p:=fun n=>decide (0<=mIdx n)||(decide (n≠8)&&decide (n≠9)&&decide (n≠10)&&decide (n≠12)&&decide (n≠13)&&decide (n≠34)&&decide (n≠92))) (by decide+kernel) h;simp only[yI,yc,zk,x5]at this;rcases this with h1|⟨⟨⟨⟨⟨⟨h1,h2⟩,h3⟩,h4⟩,h5⟩,h6⟩,h7⟩
 omega;unfold Y8;simp[h1,h2,h3,h4,h5,h6,h7]
theorem Rs{r:Int}(h:0<=r/\r<128)(h32:32<r):0<=s7 r<->Barred r:=by
 have:=JE (k:=128) (p:=fun n=>decide (n<=32)||(decide (0<=s7 n)==decide (Barred n))) (by decide+kernel) h;simp only[yI,yc,x5,vg]at this;rcases this with h1|h1
 omega;exact h1
theorem Zlo{x:Int}(h:0<=x/\x<16):(kN.drop x.toNat).take ((x+1).toNat-x.toNat)=[bV x]:=by
 have:=JE (k:=16) (p:=fun x=>(kN.drop x.toNat).take ((x+1).toNat-x.toNat)==[bV x]) (by decide+kernel) h;simpa using this
theorem Zlp:IntKind.i64.wrap (Z1 [8,9,10,12,13,34,92] 0)=8/\IntKind.i64.wrap (Z1 [8,9,10,12,13,34,92] 1)=9/\IntKind.i64.wrap (Z1 [8,9,10,12,13,34,92] 2)=10/\IntKind.i64.wrap (Z1 [8,9,10,12,13,34,92] 3)=12/\
 IntKind.i64.wrap (Z1 [8,9,10,12,13,34,92] 4)=13/\IntKind.i64.wrap (Z1 [8,9,10,12,13,34,92] 5)=34/\IntKind.i64.wrap (Z1 [8,9,10,12,13,34,92] 6)=92:=by decide+kernel
theorem BD:IntKind.i64.wrap (Z1 [60,62,34,123,125,124,94,96,92] 0)=60/\IntKind.i64.wrap (Z1 [60,62,34,123,125,124,94,96,92] 1)=62/\IntKind.i64.wrap (Z1 [60,62,34,123,125,124,94,96,92] 2)=34/\IntKind.i64.wrap (Z1 [60,62,34,123,125,124,94,96,92] 3)=123/\
 IntKind.i64.wrap (Z1 [60,62,34,123,125,124,94,96,92] 4)=125/\IntKind.i64.wrap (Z1 [60,62,34,123,125,124,94,96,92] 5)=124/\IntKind.i64.wrap (Z1 [60,62,34,123,125,124,94,96,92] 6)=94/\IntKind.i64.wrap (Z1 [60,62,34,123,125,124,94,96,92] 7)=96/\
 IntKind.i64.wrap (Z1 [60,62,34,123,125,124,94,96,92] 8)=92:=by decide+kernel
def l7:Nat->Int->List UInt8
 |0,_=>[]
 |k+1,r=>l7 k (r/16)++ [bV (r%16)]
theorem Zms(n:Int):l7 4 n=dQ n:=by
 simp only[l7,dQ,List.nil_append,List.cons_append];rw[show n/16/16/16%16=n/4096%16 by omega,show n/16/16%16=n/256%16 by omega]
theorem Rt(r:Int):(dQ r).length=4:=rfl
theorem Ru{way r:Int}(h:128<=r):Y8 way r=kz r:=by
 have hb:¬Barred r:=by unfold Barred;omega
 unfold Y8;simp(disch:=omega) only[↓z7,hb,v8,ite_self]
end Go.Our
namespace Go.Our
def Uw(a:BitVec 32):Int:=(a.toNat:Int)
structure S8 where
 a:BitVec 32
 b:BitVec 32
 c:BitVec 32
 d:BitVec 32
 e:BitVec 32
 f:BitVec 32
 g:BitVec 32
 h:BitVec 32
def dn(x:BitVec 32)(n:Nat):BitVec 32:=x>>>n|||x<<< (32-n)
def SH(k w:BitVec 32)(s:S8):S8:=
 let one:=s.h+(dn s.e 6^^^dn s.e 11^^^dn s.e 25)+((s.e&&&s.f)^^^ (~~~s.e&&&s.g))+k+w
 let two:=(dn s.a 2^^^dn s.a 13^^^dn s.a 22)+((s.a&&&s.b)^^^ (s.a&&&s.c)^^^ (s.b&&&s.c))
 ⟨one+two,s.a,s.b,s.c,s.d+one,s.e,s.f,s.g⟩
def nD:List (BitVec 32):=[
 0x428a2f98#32,0x71374491#32,0xb5c0fbcf#32,0xe9b5dba5#32,0x3956c25b#32,0x59f111f1#32,0x923f82a4#32,0xab1c5ed5#32,
 0xd807aa98#32,0x12835b01#32,0x243185be#32,0x550c7dc3#32,0x72be5d74#32,0x80deb1fe#32,0x9bdc06a7#32,0xc19bf174#32,
 0xe49b69c1#32,0xefbe4786#32,0x0fc19dc6#32,0x240ca1cc#32,0x2de92c6f#32,0x4a7484aa#32,0x5cb0a9dc#32,0x76f988da#32,
 0x983e5152#32,0xa831c66d#32,0xb00327c8#32,0xbf597fc7#32,0xc6e00bf3#32,0xd5a79147#32,0x06ca6351#32,0x14292967#32,
 0x27b70a85#32,0x2e1b2138#32,0x4d2c6dfc#32,0x53380d13#32,0x650a7354#32,0x766a0abb#32,0x81c2c92e#32,0x92722c85#32,
 0xa2bfe8a1#32,0xa81a664b#32,0xc24b8b70#32,0xc76c51a3#32,0xd192e819#32,0xd6990624#32,0xf40e3585#32,0x106aa070#32,
 0x19a4c116#32,0x1e376c08#32,0x2748774c#32,0x34b0bcb5#32,0x391c0cb3#32,0x4ed8aa4a#32,0x5b9cca4f#32,0x682e6ff3#32,
 0x748f82ee#32,0x78a5636f#32,0x84c87814#32,0x8cc70208#32,0x90befffa#32,0xa4506ceb#32,0xbef9a3f7#32,0xc67178f2#32]
def Vs:S8:=⟨0x6a09e667#32,0xbb67ae85#32,0x3c6ef372#32,0xa54ff53a#32,0x510e527f#32,0x9b05688c#32,0x1f83d9ab#32,0x5be0cd19#32⟩
def bw(b:List UInt8)(i:Nat):BitVec 32:=BitVec.ofNat 32 (b.getD i 0).toNat
def pw(b:List UInt8)(t:Nat):Nat->BitVec 32
 |0=>0
 |j+1=>pw b t j<<<8|||bw b (4*t+j)
def W4(b:List UInt8)(t:Nat):BitVec 32:=bw b (4*t)<<<24|||bw b (4*t+1)<<<16|||bw b (4*t+2)<<<8|||bw b (4*t+3)
theorem pw4(b:List UInt8)(t:Nat):pw b t 4=W4 b t:=by
 simp only[pw,W4,BitVec.shiftLeft_or_distrib,<-BitVec.shiftLeft_add,Nat.add_zero];simp
def tN(b:List UInt8)(l:List (BitVec 32))(t:Nat):BitVec 32:=
 if t<16 then W4 b t else
  (dn (l.getD (t-2) 0) 17^^^dn (l.getD (t-2) 0) 19^^^l.getD (t-2) 0>>>10)+l.getD (t-7) 0+(dn (l.getD (t-15) 0) 7^^^dn (l.getD (t-15) 0) 18^^^l.getD (t-15) 0>>>3)+l.getD (t-16) 0
def U5(b:List UInt8):Nat->List (BitVec 32)
 |0=>[]
 |t+1=>U5 b t++ [tN b (U5 b t) t]
theorem Vt(b:List UInt8)(t:Nat):(U5 b t).length=t:=by
 induction t with
 |zero=>rfl
 |succ t ih=>simp[U5,ih]
def fH(b:List UInt8)(t:Nat):List (BitVec 32):=U5 b t++List.replicate (64-t) 0
theorem Zhy(b:List UInt8){t:Nat}(ht:t<=64):(fH b t).length=64:=by simp[fH,Vt];omega
theorem SI(b:List UInt8){t:Nat}(ht:t<64)(x:BitVec 32)(hx:x=tN b (U5 b t) t):(fH b t).set t x=fH b (t+1):=by
 subst hx;unfold fH;rw[xh _ _ (by rw[Vt];exact zo _),Vt,xS,show 64-t=(64-(t+1))+1 by omega,List.replicate_succ,List.set_cons_zero];simp[U5]
theorem Zhz(b:List UInt8){t i:Nat}(h:i<t)(ht:t<=64):(fH b t)[i]?=some ((U5 b t).getD i 0):=by
 unfold fH;rw[zn (by rw[Vt];exact h),zl,z1 (by rw[Vt];exact h)]
 rfl
def Qs(ks ws:List (BitVec 32))(s:S8):Nat->S8
 |0=>s
 |t+1=>SH (ks.getD t 0) (ws.getD t 0) (Qs ks ws s t)
def Fk(s v:S8):S8:=⟨s.a+v.a,s.b+v.b,s.c+v.c,s.d+v.d,s.e+v.e,s.f+v.f,s.g+v.g,s.h+v.h⟩
def tO(s:S8)(b:List UInt8):S8:=Fk s (Qs nD (U5 b 64) s 64)
theorem EG{b:List UInt8}{i n:Nat}(h:i<n):bw (b.take n) i=bw b i:=by
 unfold bw;rw[zl,zl,zQ,zh h]
theorem ZaE(b:List UInt8)(l:List (BitVec 32))(t:Nat):tN (b.take 64) l t=tN b l t:=by
 unfold tN;split
 .unfold W4;rw[EG (by omega),EG (by omega),EG (by omega),EG (by omega)]
 rfl
theorem Zdq(b:List UInt8)(t:Nat):U5 (b.take 64) t=U5 b t:=by
 induction t with
 |zero=>rfl
 |succ t ih=>rw[U5,U5,ih,ZaE]
theorem SJ(s:S8)(b:List UInt8):tO s (b.take 64)=tO s b:=by unfold tO;rw[Zdq]
def nE(s:S8)(b:List UInt8):Nat->S8
 |0=>s
 |k+1=>tO (nE s b k) (b.drop (64*k))
def UI(s:S8)(b:List UInt8):S8:=nE s b (b.length/64)
theorem ZfI(s:S8)(b:List UInt8)(i k:Nat):nE s b (i+k)=nE (nE s b i) (b.drop (64*i)) k:=by
 induction k with
 |zero=>rfl
 |succ k ih=>rw[<-xw,nE,ih,nE,yt];congr 2;omega
theorem Z9d(s:S8)(a b:List UInt8)(k:Nat)(h:64*k<=a.length):nE s (a++b) k=nE s a k:=by
 induction k with
 |zero=>rfl
 |succ k ih=>
  rw[nE,ih (by omega),nE,<-SJ _ ((a++b).drop _),<-SJ _ (a.drop _),vv (by omega),xk (by simp;omega)]
def Xg(b:List UInt8):List UInt8:=b.drop (64*(b.length/64))
theorem Vu(b:List UInt8):(Xg b).length=b.length%64:=by simp[Xg];omega
theorem SK(s:S8)(a b:List UInt8):UI (UI s a) (Xg a++b)=UI s (a++b):=by
 have h1:a++b=a.take (64*(a.length/64))++(Xg a++b):=by unfold Xg;rw[<-zM,yM]
 have hl:(a.take (64*(a.length/64))).length=64*(a.length/64):=by simp;omega
 have h2:(a++b).length/64=a.length/64+(Xg a++b).length/64:=by simp[Vu];omega
 have h3:(a++b).drop (64*(a.length/64))=Xg a++b:=by
  rw[vv (by omega)];rfl
 unfold UI;rw[h2,ZfI,h3,Z9d s a b _ (by omega)]
theorem Z9e(a b:List UInt8):Xg (Xg a++b)=Xg (a++b):=by
 have h1:(a++b).drop (64*(a.length/64))=Xg a++b:=by
  rw[vv (by omega)];rfl
 have h2:(a++b).length/64=a.length/64+(Xg a++b).length/64:=by simp[Vu];omega
 show(Xg a++b).drop _=(a++b).drop _
 rw[h2,<-h1,yt,Nat.mul_add]
def XG(n:Nat):Nat:=(119-n%64)%64
def rC(n:Nat)(k:Nat):UInt8:=UInt8.ofNat (n/2^ (8*k)%256)
def nF(n:Nat):List UInt8:=[rC n 7,rC n 6,rC n 5,rC n 4,rC n 3,rC n 2,rC n 1,rC n 0]
def cK(b:List UInt8)(n:Nat):List UInt8:=b++ [128]++List.replicate (XG b.length) 0++nF (n*8)
theorem ZhA(b:List UInt8)(n:Nat):(cK b n).length%64=0/\(cK b n).length=b.length+9+XG b.length:=by
 simp[cK,nF,XG];omega
theorem SL(s:S8)(b:List UInt8)(n:Nat):UI (UI s b) (cK (Xg b) n)=UI s (cK b n):=by
 have h:cK (Xg b) n=Xg b++([128]++List.replicate (XG b.length) 0++nF (n*8)):=by
  unfold cK;rw[show XG (Xg b).length=XG b.length by unfold XG;rw[Vu];omega];simp only[zM]
 rw[h,SK];congr 1;simp only[cK,zM]
def tP(x:BitVec 32):List UInt8:=[UInt8.ofNat ((x>>>24).toNat%256),UInt8.ofNat ((x>>>16).toNat%256),UInt8.ofNat ((x>>>8).toNat%256),UInt8.ofNat (x.toNat%256)]
def e9(s:S8):List UInt8:=tP s.a++tP s.b++tP s.c++tP s.d++tP s.e++tP s.f++tP s.g++tP s.h
theorem WY(s:S8):(e9 s).length=32:=rfl
def eo(b:List UInt8):List UInt8:=e9 (UI Vs (cK b b.length))
