/- Part 2: SxOpsN, SxOpsP, SxOpsQ. Conditions: as each part says. -/
import Derived.Test.YtlcbipfmodcedaaGreatDoorFrm0
set_option linter.unusedVariables false
set_option linter.unusedSimpArgs false
namespace Go.Sx
open Go
section
variable {M:Mx}{K:Env}{w:World}{O:vX}{nx:Nat}{ρ:Operand->Value}{lk:Operand->Option SV}{v:SV}{O':vX}{vW:Nat}{dst:Option Tmp}{ty:TypeId}{pos:String}{af:Array Edge}{gd:Option (Nat×Bool)}
theorem TW(H:vR M K w O nx):vR M (K++ [some ⟨w.heap.size,0,0⟩]) (X4 w (.map #[] 0)) ((nx, .mp [])::O) (nx+1):=by
 refine H.alloc (w':=X4 w (.map #[] 0)) rfl rfl rfl rfl 0 0 ?_;simp only[vT];exact⟨_, #[],ZO H.len _,rfl,Yx (w:=w) (w':=X4 w (.map #[] 0)) rfl,rfl,fun i row h=>by simp at h⟩
theorem TX(A:At M K w O nx ρ lk)(t:TypeId)(r:Option Operand)(hr:(w5 M.C lk O nx (.makeMap t r)).ok O nx v O' vW):Y7 M K w ⟨dst, .makeMap t r,ty,pos,af,gd⟩ ρ v O' vW:=by
 have fin:(ux.new (.mp (.loc nx)) (.mp [])).ok O nx v O' vW->(Instr.makeMap t (r.map ρ)).run M.P w= .ok (.map (some w.heap.size)) (X4 w (.map #[] 0))->Y7 M K w ⟨dst, .makeMap t r,ty,pos,af,gd⟩ ρ v O' vW:=by
  rintro⟨rfl,rfl,rfl⟩ hrun;exact⟨_,_,_, .inl (by simp[execOp,hrun];rfl),zz _ _,TW A.H,by simp only[Den];exact⟨_,ZO A.H.len _,rfl⟩,fun _ h=>absurd h (by simp)⟩
 simp only[w5,AH]at hr;cases r with
 |none=>exact fin hr (by simp[Instr.makeMap,newObj];rfl)
 |some x=>
  simp only at hr;split at hr
  case h_2=>exact hr.elim
  rename_i kt et hs;split at hr
  case h_2=>exact hr.elim
  rename_i k n hx;obtain⟨d,hd,hm⟩:=A.T.qC t (by rw[hs];simp);rw[hs]at hm;simp only[qx]at hm;subst hm;have uv:ρ x= .int k n:=A.L _ _ hx;exact fin hr (by simp[Instr.makeMap,newObj,Z6 hd,uv,asInt];rfl)
theorem QK(A:At M K w O nx ρ lk){t:TypeId}{f:SV->ux}(hr:(lI M.C.T t f).ok O nx v O' vW):∃z zv,(zeroValue t).run M.P w= .ok zv w/\Den K z zv/\(f z).ok O nx v O' vW:=by
 unfold lI at hr;split at hr
 exact hr.elim;rename_i c cs hz;split at hr
 case h_2=>exact hr.elim
 rename_i z ho;have hsh:M.C.T.sh t≠ .other:=by intro h;simp[YF,h]at ho
 obtain⟨i,zv,h1,h2,h3⟩:=Eu A.T hsh (by rw[hz];simp) (by rw[hz];exact ho) K;exact⟨z,zv,XT h1 h2 w,h3,hr⟩
theorem VX{z:SV}{zv:Value}{ok b:Bool}(h:Den K z zv):Den K (lJ ok z b) (if ok=true then .tuple #[zv, .bool b]else zv):=by
 cases ok with
 |false=>exact h
 |true=>simp only[lJ,Den,vV];exact⟨[zv, .bool b],rfl,zv,_,rfl,h,_,[],rfl,rfl,rfl⟩
theorem Wi{rs:List (List DC)}{j:Nat}{k v d:DC}(h:rs[j]?=some [k,v]):rs.modify j (jl d)=uB rs j 1 d:=by
 unfold uB;apply yu;intro i;rw[yo,yo];by_cases hi:j=i
 subst hi;rw[h];rfl;simp[hi]
theorem TY(A:At M K w O nx ρ lk){kt et:TypeId}{ks:Bool×List CK}{key:SV}{ok:Bool}{b:wq}{u:Value}{e:wZ}(hks:M.C.T.key kt=some ks)(hdk:Den K key u)(he:K.get b=some (some e))
 (hr:(E8 M.C O nx ks et key ok b).ok O nx v O' vW):∃es r η',w.heap[e.g]?=some (.map es es.size)/\(Instr.checkKey es.isEmpty 10000 kt u).run M.P w= .ok () w/\
   (do let(v,ok')<-match<-Instr.findKey kt u es.toList with
     |some (_,v)=>pure (v,true)
     |none=>pure (<-zeroValue et,false)
       pure (if ok=true then .tuple #[v, .bool ok']else v):Sem Value).run M.P w= .ok r w/\K<+:η'/\vR M η' w O' vW/\Den η' v r:=by
 unfold E8 at hr;split at hr
 case h_2=>exact hr.elim
 rename_i i;split at hr
 case h_2=>exact hr.elim
 rename_i es rs hb;obtain⟨⟨fh,hro⟩,hr⟩:=hr;have u9:=(A.H.own.1 i _ hb).1;have kQ:=u9;simp only[vT]at kQ;obtain⟨⟨⟨e',uK,h1,h2,h3,h4,h5⟩,_⟩,_⟩:=kQ;rw[he]at h1;injection h1 with h1;injection h1 with h1;subst h1
 obtain⟨f,hf,uP,hval⟩:=Vw A.T hks fh hdk (w:=w) hro (s4 (es:=uK.toList) (i:=0) (by simpa using h4) fun j row hj=>by
  obtain⟨en,g1,g2,g3⟩:=h5 j row hj
  exact⟨en,by simpa using g1,by omega,g3⟩)
 have eE:=(A.T.key kt ks hks).1 w K uK.isEmpty key u fh hdk;rw[Wg]at uP;cases hm:findD ks key 0 rs with
 |none=>
  rw[hm]at hr uP;obtain⟨z,zv,hz,cz,hr⟩:=QK A hr;have uP:f=none:=uP;subst uP;obtain⟨rfl,rfl,rfl⟩:=hr;exact⟨uK,_,K,h3,eE,by simp[hf,hz],zu,A.H,VX cz⟩
 |some p=>
  obtain⟨j,d⟩:=p;rw[hm]at hr uP;simp only[Option.map_some]at uP;obtain⟨xv,rfl,eF⟩:=uP;obtain⟨en,mu,uv⟩:=hval j xv rfl;obtain⟨k0,_,hrow,_⟩:=F6 hm;rw[Nat.sub_zero]at hrow;simp only[AJ]at hr;cases d with
  |v s=>
   obtain⟨rfl,rfl,rfl⟩:=hr;exact⟨uK,_,K,h3,eE,by simp[hf],zu,A.H,VX eF⟩
  |uA es' rows=>
   obtain⟨rfl,rfl,rfl⟩:=hr;obtain⟨x,hH⟩:=A.H.take hb hrow (c:=1) rfl;rw[Wi hrow];have hsome:(u5 i O).isSome:=by rw[hb];rfl
   have pz:i≠nx:=fun h=>by have:=A.H.lt hb;omega
   have hs2:=(hH.own.1 i (.deep true es (uB rs j 1 (.v (.sl (.loc nx) 0 es' rows.length none)))) (by rw[Z8,z7 pz,Y1 i _ O i hsome,zf rfl])).1;obtain⟨e2,o2,v2,q1,q2,q3,q4,_⟩:=UP hs2 (r:=j) (c:=1) (row:=[k0, .v (.sl (.loc nx) 0 es' rows.length none)]) (by rw[Yl,zf rfl,hrow];rfl) rfl;have qm:(K++ [x]).get (.loc i)=some (some e):=Env.uc (zz _ _) he;rw[qm]at q1;injection q1 with q1;injection q1 with q1;subst q1
   rw[h3]at q2;injection q2 with q2;subst q2
   have aR:uK[j]?=some en:=by simpa using mu
   simp only[ZI,aR,Option.map_some,zi]at q3;subst q3 uv;exact⟨uK,_,_,h3,eE,by simp[hf],zz _ _,hH,VX q4⟩
theorem I1(A:At M K w O nx ρ lk)(t:TypeId)(x i:Operand)(ok:Bool)(hr:(w5 M.C lk O nx (.lookup t x i ok)).ok O nx v O' vW):Y7 M K w ⟨dst, .lookup t x i ok,ty,pos,af,gd⟩ ρ v O' vW:=by
 simp only[w5,AK]at hr;split at hr
 case h_2=>exact hr.elim
 rename_i kt et hs;obtain⟨d,hd,hm⟩:=A.T.qC t (by rw[hs];simp);rw[hs]at hm;simp only[qx]at hm;subst hm;split at hr
 case h_2=>exact hr.elim
 rename_i ks hks;split at hr
 case h_2=>exact hr.elim
 rename_i key hi;have lU:=Ot A.L hi;split at hr
 .rename_i b hx;split at hr
  case h_2=>
   have uv:=A.L _ _ hx;simp only[Den]at uv;obtain⟨e,he,hv⟩:=uv;obtain⟨es,r,η',g1,g2,g3,g4,g5,g6⟩:=TY A hks lU he hr
   have hrun:(Instr.lookup t (ρ x) (ρ i) ok).run M.P w= .ok r w:=by
    rw[<-g3];simp[Instr.lookup,Z6 hd,hv,JH g1,g2]
    rfl
   exact⟨r,w,η', .inl (by simp[execOp,hrun]),g4,g5,g6,fun _ _=>rfl⟩
  rename_i rs hb;obtain⟨⟨fh,hro⟩,hr⟩:=hr;have uv:=A.L _ _ hx;simp only[Den]at uv;obtain⟨e,he,hv⟩:=uv;have u9:=A.H.look hb;simp only[vT]at u9;obtain⟨e',es,h1,h2,h3,h4,h5⟩:=u9;rw[he]at h1;cases h1
  obtain⟨f,hf,uP⟩:=Ua A.T hks fh lU (w:=w) hro (s4 (es:=es.toList) (i:=0) (by simpa using h4) fun j row hj=>by
   obtain⟨en,g1,g2,g3⟩:=h5 j row hj
   exact⟨en,by simpa using g1,by omega,g3⟩)
  have eE:=(A.T.key kt ks hks).1 w K es.isEmpty key (ρ i) fh lU;cases hm:Xs ks key 0 rs with
  |some p=>
   obtain⟨j,u⟩:=p;rw[hm]at hr uP;obtain⟨xv,rfl,eF⟩:=uP;exact A.val hr ⟨_, .inl (by simp[execOp,Instr.lookup,Z6 hd,hv,JH h3,eE,hf]),VX eF⟩
  |none=>
   rw[hm]at hr uP;obtain⟨z,zv,hz,cz,hr⟩:=QK A hr;have uP:f=none:=uP;subst uP;exact A.val hr ⟨_, .inl (by simp[execOp,Instr.lookup,Z6 hd,hv,JH h3,eE,hf,hz]),VX cz⟩
 .rename_i hx;obtain⟨fh,hr⟩:=hr;have hv:ρ x= .map none:=(A.L _ _ hx).1;have eE:=(A.T.key kt ks hks).1 w K true key (ρ i) fh lU;obtain⟨f,hf,uP⟩:=Ua A.T hks fh lU (w:=w) (rs:=[]) (es:=[]) (fun r h=>by simp at h) trivial;have uP:f=none:=uP;subst uP;obtain⟨z,zv,hz,cz,hr⟩:=QK A hr;exact A.val hr ⟨_, .inl (by simp[execOp,Instr.lookup,Z6 hd,hv,eE,hf,hz]),VX cz⟩
 exact hr.elim
theorem P6{rs:List (List DC)}{r c a:Nat}{d:DC}(h:ot rs r c=some (a,d)):∃row,rs[r]?=some row/\row[c]?=some d:=by
 unfold ot at h;split at h
 .rename_i row hr;split at h
  .rename_i d' hc;injection h with h;injection h with _ h;subst h;exact⟨row,hr,hc⟩
  cases h
 cases h
theorem P7(hT:uC M.P M.C.T){own:Bool}{i es:Nat}{rs:List (List DC)}(d:vT K w own (.loc i) (.deep false es rs)){r c:Nat}{row:List DC}{sv v:SV}{e:wZ}{t:TypeId}
 (hr:rs[r]?=some row) (hc:row[c]?=some (.v sv)) (he:K.get (.loc i)=some (some e)) (h1:M.C.T.size t=1) (ho:YF M.C.T t [sv]=some v):
 ∃u,(loadVar t ⟨e.g,e.base+(r*es+c),none⟩).run M.P w= .ok u w/\Den K v u:=by
 simp only[vT]at d;obtain⟨d1,_⟩:=d;have hfr:(Zy rs)[r]?=some (row.map ZS):=by rw[Y9,hr];rfl
 rcases d1 with⟨h,_⟩|⟨e',arr,T,fz,h2,h3,_,h4⟩
 rw[he]at h;cases h;rw[he]at h2;injection h2 with h2;injection h2 with h2;subst h2
 obtain⟨h5,h6⟩:=h4 r _ hfr
 have hp:bB M.C.T t c (row.map ZS)= .val v:=by
  unfold bB;have hlt:=(ze.1 hc).1
  have hd:(row.map ZS).drop c=sv::(row.map ZS).drop (c+1):=by
   rw[zm (by simpa using hlt)];congr 1;have:=(ze.1 hc).2;rw[yg,this];rfl
  rw[hd,h1];simp only[aN,ho]
 obtain⟨_,_,u,hu,hd⟩:=GX (v:=v) (O:=([]:vX)) (nx:=0) (O':=[]) (vW:=0) hT h3 h6 (by rw[hp];exact⟨rfl,rfl,rfl⟩);exact⟨u,by rw[<-xD];exact hu,hd⟩
theorem I2(A:At M K w O nx ρ lk)(t:TypeId)(x:Operand)(hr:(w5 M.C lk O nx (.load t x)).ok O nx v O' vW):Y7 M K w ⟨dst, .load t x,ty,pos,af,gd⟩ ρ v O' vW:=by
 simp only[w5,Am]at hr;split at hr
 case h_2=>exact hr.elim
 rename_i p hx
 have plain:∀{hr:(iA M.C.T (Yn M.C O) t p).ok O nx v O' vW},Y7 M K w ⟨dst, .load t x,ty,pos,af,gd⟩ ρ v O' vW:=fun{hr}=>by
  obtain⟨e1,e2,a,u,h1,h2,h3⟩:=Ov A.T A.H (A.L _ _ hx) hr;exact A.same (.inl (by simp[execOp,h1,Instr.loadAt,Instr.sureAddr,h2])) h3 e1 e2
 split at hr
 .rename_i i r es c;split at hr
  .rename_i es' rs hb;split at hr
   .rename_i wF hsz;have wF:=Zr wF;have hsz:=Zr hsz;subst wF;have uv:=A.L _ _ hx;simp only[Den]at uv;obtain⟨e,he,hv⟩:=uv;cases hcd:ot rs r c with
    |none=>rw[hcd]at hr;exact hr.elim
    |some p=>
     obtain⟨a,d⟩:=p;rw[hcd]at hr;have hr:(GK M.C nx i es rs r c t d).ok O nx v O' vW:=hr;obtain⟨row,hrow,hcell⟩:=P6 hcd;have u9:=(A.H.own.1 i _ hb).1;cases d with
     |v sv=>
      simp only[GK]at hr;split at hr
      .rename_i v0 ho;obtain⟨u,hu,hd⟩:=P7 A.T u9 hrow hcell he hsz ho;exact A.val hr ⟨u, .inl (by simp[execOp,hv,Instr.loadAt,Instr.sureAddr,hu]),hd⟩
      exact hr.elim
     |uA es' rows=>
      simp only[GK]at hr;split at hr
      .rename_i q hs;obtain⟨rfl,rfl,rfl⟩:=hr;obtain⟨x,hH⟩:=A.H.take hb hrow hcell;have hsome:(u5 i O).isSome:=by rw[hb];rfl
       have pz:i≠nx:=fun h=>by have:=A.H.lt hb;omega
       have hs2:=(hH.own.1 i (.deep false es (uB rs r c (.v (.sl (.loc nx) 0 es' rows.length none)))) (by rw[Z8,z7 pz,Y1 i _ O i hsome,zf rfl])).1;have qm:(K++ [x]).get (.loc i)=some (some e):=Env.uc (zz _ _) he;obtain⟨u,hu,hd⟩:=P7 A.T hs2 (r:=r) (c:=c) (row:=row.set c (.v (.sl (.loc nx) 0 es' rows.length none))) (by rw[Yl,zf rfl,hrow];rfl) (by rw[List.getElem?_set_self (ze.1 hcell).1]) qm hsz (v:= .sl (.loc nx) 0 es' rows.length none) (by simp only[YF,hs]);exact⟨u,w,_, .inl (by simp[execOp,hv,Instr.loadAt,Instr.sureAddr,hu]),zz _ _,hH,hd,fun _ _=>rfl⟩
      exact hr.elim
   exact hr.elim
  exact plain (hr:=hr)
 exact plain (hr:=hr)
end
end Go.Sx
namespace Go.Sx
open Go
theorem EU{ks:Bool×List CK}{key:SV}:∀{rs:List (List SV)} {i j:Nat} {v:SV},Xs ks key i rs=some (j,v)->∃k,i<=j/\rs[j-i]?=some [k,v]/\bE ks key k=true
 | [],i,j,v,h=>by simp[Xs]at h
 |r::rs,i,j,v,h=>by
  unfold Xs at h;split at h
  .rename_i k u;split at h
   .rename_i hk;simp only[zi,yF]at h;obtain⟨rfl,rfl⟩:=h;exact⟨k,zo _,by simp,hk⟩
   .obtain⟨k',h1,h2,h3⟩:=EU h;refine⟨k',by omega,?_,h3⟩;have:j-i=(j-(i+1))+1:=by omega
    rw[this];simpa using h2
  cases h
section
variable {M:Mx}{K:Env}{w:World}{O:vX}{nx:Nat}{ρ:Operand->Value}{lk:Operand->Option SV}{v:SV}{O':vX}{vW:Nat}{dst:Option Tmp}{ty:TypeId}{pos:String}{af:Array Edge}{gd:Option (Nat×Bool)}
def X5(w:World)(g:Nat)(es:Array MapEntry):World:={w with heap:=w.heap.setIfInBounds g (.map es es.size)}
def UF(K:Env)(rs:List (List SV))(es:Array MapEntry):Prop:=es.size=rs.length/\∀j row,rs[j]?=some row->∃e:MapEntry,es[j]?=some e/\e.born=j/\vV K row [e.key,e.val]
theorem map_set(H:vR M K w O nx){i:Nat}{rs rs':List (List SV)}{en:wZ}{es es':Array MapEntry}(hh:u5 i O=some (.mp rs))(hb:K[i]?=some (some en))(h0:en.base=0)(h3:w.heap[en.g]?=some (.map es es.size))(hm:UF K rs' es'):
 (setObj en.g (.map es' es'.size)).run M.P w= .ok () (X5 w en.g es')/\vR M K (X5 w en.g es') (uI i (.mp rs') O) nx:=by
 have hlt:en.g<w.heap.size:=(zA.1 h3).1;refine⟨by simp[setObj,Sem.run,h3,X5],?_⟩;refine H.kZ hh hb (fun k hk=>?_) (by simp[X5]) rfl rfl rfl ?_;simp[X5,yT,yY hk]
 .simp only[vT,Env.get];exact⟨en,es',hb,h0,by simp[X5,hlt],hm.1,hm.2⟩
theorem EV{rs:List (List SV)}{es:Array MapEntry}(hm:UF K rs es){j:Nat}{k v0 v:SV}{u x:Value}(hj:rs[j]?=some [k,v0])(hk:Den K k u)(hv:Den K v x):UF K (rs.modify j (ew v)) (es.modify j fun e=>{e with key:=u,val:=x}):=by
 refine⟨by rw[vP,List.length_modify];exact hm.1,fun a row ha=>?_⟩;rw[yo]at ha;cases hr:rs[a]? with
 |none=>rw[hr]at ha;cases ha
 |some r0=>
  rw[hr]at ha;obtain⟨e,e1,e2,e3⟩:=hm.2 a r0 hr;rw[yh,e1];by_cases hja:j=a
  .subst hja;rw[hj]at hr;cases hr;simp only[yJ,Option.map_eq_map,Option.map_some,zi,ew]at ha;subst ha;refine⟨{e with key:=u,val:=x},by simp,e2,?_⟩;simp only[vV];exact⟨_,_,rfl,hk,_,_,rfl,hv,rfl⟩
  .simp only[z7 hja,Option.map_eq_map,Option.map_some,zi,id]at ha;subst ha;exact⟨e,by simp[hja],e2,e3⟩
theorem EW{rs:List (List SV)}{es:Array MapEntry}(hm:UF K rs es){k v:SV}{u x:Value}(hk:Den K k u)(hv:Den K v x):UF K (rs++ [[k,v]]) (es.push ⟨u,x,es.size⟩):=by
 refine⟨by simp[hm.1],fun a row ha=>?_⟩;rw[xW];by_cases hl:a<rs.length
 .rw[zn hl]at ha;obtain⟨e,e1,e2,e3⟩:=hm.2 a row ha;exact⟨e,by rw[z7 (by rw[hm.1];omega)];exact e1,e2,e3⟩
 .rw[zw (by omega)]at ha
  have:a-rs.length=0:=by
   cases hq:a-rs.length with
   |zero=>rfl
   |succ n=>rw[hq]at ha;simp at ha
  rw[this]at ha;simp only[List.getElem?_cons_zero,zi]at ha;subst ha;have:a=es.size:=by rw[hm.1];omega
  subst this;refine⟨⟨u,x,es.size⟩,by simp,rfl,?_⟩;simp only[vV];exact⟨_,_,rfl,hk,_,_,rfl,hv,rfl⟩
theorem Fb{u:Value}(h:Instr.sameBits 10000 u u=true)(w:World):(Instr.keyThatStays u u).run M.P w= .ok u w:=by simp[Instr.keyThatStays,h]
theorem qZ{rs:List (List DC)}{r c:Nat}{d d':DC}:uB (uB rs r c d) r c d'=uB rs r c d':=by
 apply yu;intro a;rw[Yl,Yl,Yl];by_cases ha:a=r
 .subst ha;cases rs[a]?<;>simp
 simp[ha]
theorem I3{rs:List (List DC)}{k d d':DC}:rs++ [[k,d']]=uB (rs++ [[k,d]]) rs.length 1 d':=by
 apply yu;intro a;rw[Yl];by_cases ha:a=rs.length
 subst ha;simp
 .rw[z7 ha];by_cases hlt':a<rs.length
  rw[zn hlt',zn hlt'];rw[zW (by simp;omega),zW (by simp;omega)]
theorem EX(H:vR M K w O nx){i es:Nat}{rs ow:List (List DC)}{e:wZ}{uK qS:Array MapEntry}(hb:u5 i O=some (.deep true es rs))(he:K[i]?=some (some e))(h3:w.heap[e.g]?=some (.map uK uK.size))(hm':UF K (Zy ow) qS)
 (wY:∀a b y,Ye ow a b=some y->Ye rs a b=some y/\ZI (.map qS qS.size) es a b=ZI (.map uK uK.size) es a b):vR M K (X5 w e.g qS) (uI i (.deep true es ow) O) nx:=by
 have u9:=(H.own.1 i _ hb).1;obtain⟨_,hD,wF⟩:=u9.wJ;have h2:=(hD e he).1;have hK:=(hD e he).2 _ h3;have hlt:e.g<w.heap.size:=(zA.1 h3).1;have wG:∀k,k≠e.g->(X5 w e.g qS).heap[k]?=w.heap[k]?:=fun k hk=>by simp[X5,yT,yY hk]
 have pE:(X5 w e.g qS).heap[e.g]?=some (.map qS qS.size):=by simp[X5,hlt]
 refine H.bF hb he wG (by simp[X5]) rfl rfl rfl ?_ (zo _) fun m fm=>?_
 .refine vT.qM (⟨e,qS,show K.get (.loc i)=some (some e)from he,h2,pE,hm'.1,hm'.2⟩:jK K (X5 w e.g qS) (.loc i) (Zy ow)) wF fun e' h1=>?_;rw[show K.get (.loc i)=some (some e)from he]at h1;injection h1 with h1;injection h1 with h1;subst h1
  refine⟨h2,fun o' ho=>?_⟩;rw[pE]at ho;injection ho with ho;subst ho
  refine⟨fun a b gW fN hk=>?_,fun a b a' b' y y' z z' k h1 h2 h3 h4 h5 h6=>?_⟩
  .obtain⟨q1,q2⟩:=wY a b _ hk;obtain⟨z,q3,q4,q5⟩:=hK.sat a b _ _ q1;refine⟨z,q2.trans q3,q4.keep fun k hz=>wG k fun e=>?_,q5⟩;subst e;exact q5 hz
  .obtain⟨q1,q2⟩:=wY a b _ h1;obtain⟨s6,I4⟩:=wY a' b' _ h2;exact hK.ne a b a' b' y y' z z' k q1 s6 (q2▸h3) (I4▸h4) h5 h6
 .rcases fm.of (e:=e) (show K.get (.loc i)=some (some e)from he)with rfl|fm
  exact vY.own he
  .simp only[uA]at fm;obtain⟨o',a,b,y,z,f1,f2,f3,f4⟩:=fm;rw[pE]at f1;injection f1 with f1;subst f1
   obtain⟨q1,q2⟩:=wY a b _ f2;exact⟨e,he, .inr (by simp only[uA];exact⟨_,a,b,y,z,h3,q1,q2▸f3,f4⟩)⟩
theorem EY{rs:List (List DC)}{es j:Nat}{k0 d0:DC}{sv:SV}{uK:Array MapEntry}{en:MapEntry}{x:Value}(hm:UF K (Zy rs) uK)(k2:rs[j]?=some [k0,d0])(n1:uK[j]?=some en)(js:Den K (ZS k0) en.key)(eF:Den K sv x):
 UF K (Zy (uB rs j 1 (.v sv))) (uK.modify j fun e=>{e with key:=en.key,val:=x})/\
 ∀a b y,Ye (uB rs j 1 (.v sv)) a b=some y->Ye rs a b=some y/\ZI (.map (uK.modify j fun e=>{e with key:=en.key,val:=x}) (uK.modify j fun e=>{e with key:=en.key,val:=x}).size) es a b=ZI (.map uK uK.size) es a b:=by
 have hfr:(Zy rs)[j]?=some [ZS k0,ZS d0]:=by rw[Y9,k2];rfl
 refine⟨?_,fun a b y hk=>?_⟩
 .have:Zy (uB rs j 1 (.v sv))=(Zy rs).modify j (ew sv):=by
   apply yu;intro a;rw[Wh,yo];by_cases ha:a=j
   subst ha;rw[zf rfl,hfr];simp[ew,ZS]
   .have hja:¬j=a:=fun h=>ha h.symm;rw[z7 ha];simp[hja]
  rw[this];exact EV hm hfr js eF
 .obtain⟨q1,q2⟩:=JZ hk;refine⟨q1,?_⟩;simp only[ZI];rw[yh];by_cases ha:j=a
  .subst ha;rw[zf rfl,n1];obtain⟨y1,y2⟩:=y;obtain⟨row,r1,r2⟩:=uk.1 q1;rw[k2]at r1;injection r1 with r1;subst r1
   match b,r2,q2 with
   |0,_,_=>rfl
   |1,_,q2=>exact(q2 ⟨rfl,rfl⟩).elim
   |b+2,r2,_=>simp at r2
  rw[z7 ha]
theorem P8{rs:List (List DC)}{es:Nat}{key sv:SV}{uK:Array MapEntry}{u x:Value}(hm:UF K (Zy rs) uK)(hdk:Den K key u)(eF:Den K sv x):
 UF K (Zy (rs++ [[.v key, .v sv]])) (uK.push ⟨u,x,uK.size⟩)/\
 ∀a b y,Ye (rs++ [[.v key, .v sv]]) a b=some y->Ye rs a b=some y/\ZI (.map (uK.push ⟨u,x,uK.size⟩) (uK.push ⟨u,x,uK.size⟩).size) es a b=ZI (.map uK uK.size) es a b:=by
 refine⟨?_,fun a b y hk=>?_⟩
 .have:Zy (rs++ [[.v key, .v sv]])=Zy rs++ [[key,sv]]:=by simp[Zy,ZS]
  rw[this];exact EW hm hdk eF
 .obtain⟨y1,y2⟩:=y;obtain⟨row,k1,k2⟩:=uk.1 hk;by_cases hlt':a<rs.length
  .rw[zn hlt']at k1;refine⟨uk.2 ⟨row,k1,k2⟩,?_⟩;simp only[ZI];rw[xW,z7 (by have:=hm.1;rw[Ya]at this;omega)]
  .rw[zw (by omega)]at k1;cases hz:a-rs.length with
   |succ n=>rw[hz]at k1;simp at k1
   |zero=>
    rw[hz]at k1;simp at k1;subst k1
    match b,k2 with
    |0,k2=>cases k2
    |1,k2=>cases k2
    |b+2,k2=>simp at k2
theorem I5(A:At M K w O nx ρ lk){kt et:TypeId}{ks:Bool×List CK}{key sv:SV}{i es:Nat}{rs:List (List DC)}{u x:Value}{e:wZ}(hks:M.C.T.key kt=some ks)(hdk:Den K key u)(eF:Den K sv x)(he:K[i]?=some (some e))
 (hb:u5 i O=some (.deep true es rs)) (hr:(ux.need (JF ks key=true/\JP ks (Zy rs)) (rU M.C.T et O i (fun d=> .deep true es (kE ks key d rs)) sv)).ok O nx v O' vW):
 ∃uK w',w.heap[e.g]?=some (.map uK uK.size)/\(Instr.checkKey false 10000 kt u).run M.P w= .ok () w/\
  (do match<-Instr.findKey kt u uK.toList with
    |some (k,_)=>do
     let k'<-Instr.keyThatStays (((uK[k]?).map (·.key)).getD u) u
     setObj e.g (.map (uK.modify k fun e'=>{e' with key:=k',val:=x}) uK.size)
    |none=>setObj e.g (.map (uK.push {key:=u,val:=x,born:=uK.size}) (uK.size+1)):Sem Unit).run M.P w= .ok () w'/\vR M K w' O' vW/\v= .uz []:=by
 obtain⟨⟨fh,hro⟩,hr⟩:=hr;have u9:=(A.H.own.1 i _ hb).1;obtain⟨_,hD,wF⟩:=u9.wJ;have kQ:=u9;simp only[vT,Env.get]at kQ;obtain⟨⟨⟨e',uK,h1,h2,h3,h4,h5⟩,_⟩,_⟩:=kQ;rw[show K.get (.loc i)=some (some e)from he]at h1;injection h1 with h1;injection h1 with h1;subst h1
 have hm:UF K (Zy rs) uK:=⟨h4,h5⟩;have hK:=(hD e he).2 _ h3;have hlt:e.g<w.heap.size:=(zA.1 h3).1;have hsome:(u5 i O).isSome:=by rw[hb];rfl
 obtain⟨f,hf,uP,hval⟩:=Vw A.T hks fh hdk (w:=w) hro (s4 (es:=uK.toList) (i:=0) (by simpa using hm.1) fun j row hj=>by
  obtain⟨en,g1,g2,g3⟩:=hm.2 j row hj
  exact⟨en,by simpa using g1,by omega,g3⟩)
 have eE:=(A.T.key kt ks hks).1 w K false key u fh hdk;rw[Wg]at uP
 have fin:∀{qS:Array MapEntry} {r:Nat} {k0:DC},(kE ks key (.v sv) rs)[r]?=some [k0, .v sv]->(∀d,kE ks key d rs=uB (kE ks key (.v sv) rs) r 1 d)->UF K (Zy (kE ks key (.v sv) rs)) qS->
  (∀a b y,Ye (kE ks key (.v sv) rs) a b=some y->Ye rs a b=some y/\ZI (.map qS qS.size) es a b=ZI (.map uK uK.size) es a b)->
  (setObj e.g (.map qS qS.size)).run M.P w= .ok () (X5 w e.g qS)/\vR M K (X5 w e.g qS) O' vW/\v= .uz []:=by
  intro qS r k0 hrow wK hm' wY;obtain⟨H2,rfl,rfl⟩:=EO hr (mp:=true) (es:=es) (ow:=kE ks key (.v sv) rs) (r:=r) (c:=1) (fun d=>by rw[wK d]) rfl hrow rfl hsome (EX A.H hb he h3 hm' wY);exact⟨by simp[setObj,Sem.run,h3,X5],H2,rfl⟩
 cases hq:findD ks key 0 rs with
 |none=>
  rw[hq]at uP;have uP:f=none:=uP;subst uP;have hs:∀d,kE ks key d rs=rs++ [[.v key,d]]:=fun d=>by unfold kE;rw[hq]
  have hp:=P8 (es:=es) hm hdk eF;rw[<-hs]at hp
  obtain⟨g1,g2,g3⟩:=fin (qS:=uK.push ⟨u,x,uK.size⟩) (r:=rs.length) (k0:= .v key) (by rw[hs];simp) (fun d=>by
   rw[hs,hs]
   exact I3) hp.1 hp.2
  rw[Array.size_push]at g1;exact⟨uK,_,h3,eE,by simp[hf];rw[g1],g2,g3⟩
 |some p=>
  obtain⟨j,d0⟩:=p;rw[hq]at uP;obtain⟨xv,rfl,_⟩:=uP;obtain⟨k0,_,k2,k3⟩:=F6 hq;rw[Nat.sub_zero]at k2;have hfr:(Zy rs)[j]?=some [ZS k0,ZS d0]:=by rw[Y9,k2];rfl
  obtain⟨en,n1,n2,n3⟩:=hm.2 j _ hfr;simp only[vV]at n3;obtain⟨_,_,e1,js,_,_,e2,_,e3⟩:=n3;cases e1;cases e2
  obtain⟨heq,mE⟩:=F5 k3 hdk js;have hs:∀d,kE ks key d rs=uB rs j 1 d:=fun d=>by unfold kE;rw[hq];exact Wi k2
  have hjl:j<rs.length:=(ze.1 k2).1;have hp:=EY (es:=es) hm k2 n1 js eF;rw[<-hs]at hp
  obtain⟨g1,g2,g3⟩:=fin (qS:=uK.modify j fun e=>{e with key:=en.key,val:=x}) (r:=j) (k0:=k0) (by rw[hs,Yl,zf rfl,k2];rfl) (fun d=>by
   rw[hs,hs]
   exact qZ.symm) hp.1 hp.2
  rw[vP]at g1;rw[<-heq]at g1;exact⟨uK,_,h3,eE,by simp[hf,n1,<-heq,Fb mE];rw[g1],heq▸g2,g3⟩
theorem P9(A:At M K w O nx ρ lk)(t:TypeId)(m k x:Operand)(hr:(w5 M.C lk O nx (.mapUpdate t m k x)).ok O nx v O' vW):Y7 M K w ⟨dst, .mapUpdate t m k x,ty,pos,af,gd⟩ ρ v O' vW:=by
 simp only[w5,E9]at hr;split at hr
 case h_2=>exact hr.elim
 rename_i kt et hs;obtain⟨d,hd,hm⟩:=A.T.qC t (by rw[hs];simp);rw[hs]at hm;simp only[qx]at hm;subst hm;split at hr
 case h_2=>exact hr.elim
 rename_i ks hks;split at hr
 case h_2=>exact hr.elim
 rename_i key hi;have lU:=Ot A.L hi;split at hr
 case h_2=>exact hr.elim
 rename_i sv hx;split at hr
 case h_2=>exact hr.elim
 rename_i i lV;split at hr
 case h_3=>exact hr.elim
 case h_2=>
  rename_i es rs hb;have uv:=A.L _ _ lV;simp only[Den,Env.get]at uv;obtain⟨e,he,hv⟩:=uv;obtain⟨uK,w',g1,g2,g3,g4,rfl⟩:=I5 A hks lU (A.L _ _ hx) he hb hr
  have hrun:(Instr.mapUpdate t (ρ m) (ρ k) (ρ x)).run M.P w= .ok () w':=by
   rw[<-g3];simp[Instr.mapUpdate,Z6 hd,hv,JH g1,g2]
   rfl
  exact⟨undef,w',K, .inr ⟨by simp[execOp,hrun],rfl⟩,zu,g4,V8 K,fun h=>by cases h⟩
 rename_i rs hb;obtain⟨⟨fh,hro⟩,rfl,rfl,rfl⟩:=hr;have uv:=A.L _ _ lV;simp only[Den,Env.get]at uv;obtain⟨e,he,hv⟩:=uv;obtain⟨u9,_⟩:=A.H.own.1 i _ hb;simp only[vT,Env.get]at u9;obtain⟨e',es,h1,h2,h3,h4⟩:=u9;rw[he]at h1;cases h1;have hm:UF K rs es:=h4;have hdk:=lU;have eF:=A.L _ _ hx
 obtain⟨f,hf,uP⟩:=Ua A.T hks fh hdk (w:=w) hro (s4 (es:=es.toList) (i:=0) (by simpa using hm.1) fun j row hj=>by
  obtain⟨en,g1,g2,g3⟩:=hm.2 j row hj
  exact⟨en,by simpa using g1,by omega,g3⟩)
 have eE:=(A.T.key kt ks hks).1 w K false key (ρ k) fh hdk;unfold jZ;cases hq:Xs ks key 0 rs with
 |none=>
  rw[hq]at uP;have uP:f=none:=uP;subst uP;obtain⟨g1,g2⟩:=map_set A.H hb he h2 h3 (EW hm hdk eF);rw[Array.size_push]at g1;exact⟨undef,_,K, .inr ⟨by simp[execOp,Instr.mapUpdate,Z6 hd,hv,JH h3,eE,hf];rw[g1];rfl,rfl⟩,zu,g2,V8 K,fun h=>by cases h⟩
 |some p=>
  obtain⟨j,u⟩:=p;rw[hq]at uP;obtain⟨xv,rfl,_⟩:=uP;obtain⟨k0,_,k2,k3⟩:=EU hq;rw[Nat.sub_zero]at k2;obtain⟨en,n1,n2,n3⟩:=hm.2 j _ k2;simp only[vV]at n3;obtain⟨_,_,e1,js,_,_,e2,_,e3⟩:=n3;cases e1;cases e2
  obtain⟨heq,mE⟩:=F5 k3 hdk js;obtain⟨g1,g2⟩:=map_set A.H hb he h2 h3 (EV hm k2 (heq▸js) eF);rw[vP]at g1;exact⟨undef,_,K, .inr ⟨by simp[execOp,Instr.mapUpdate,Z6 hd,hv,JH h3,eE,hf,n1,<-heq,Fb mE];rw[g1];rfl,rfl⟩,zu,g2,V8 K,fun h=>by cases h⟩
theorem I6(A:At M K w O nx ρ lk)(t:TypeId)(m k x:Operand)(hr:(w5 M.C lk O nx (.insert t m k x)).ok O nx v O' vW):Y7 M K w ⟨dst, .insert t m k x,ty,pos,af,gd⟩ ρ v O' vW:=by
 obtain⟨u,w',η',h1,h2,h3,h4,_⟩:=P9 (dst:=dst) (ty:=ty) (pos:=pos) (af:=af) (gd:=gd) A t m k x hr;exact⟨u,w',η',h1,h2,h3,h4,fun h=>by cases h⟩
theorem Pa{w:World}{g:Nat}{es:Array MapEntry}(h:w.heap[g]?=some (.map es es.size)):X5 w g es=w:=by
 have hh:w.heap.setIfInBounds g (.map es es.size)=w.heap:=by
  apply xN;intro k;rw[yT];split
  rename_i e;subst e;rw[h];simp[(zA.1 h).1]
  rfl
 unfold X5;rw[hh]
theorem I7(A:At M K w O nx ρ lk){kt et:TypeId}{ks:Bool×List CK}{key:SV}{i es:Nat}{rs:List (List DC)}{u:Value}{e:wZ}(hks:M.C.T.key kt=some ks)(hdk:Den K key u)(he:K[i]?=some (some e))
 (hb:u5 i O=some (.deep true es rs)) (hr:(ux.need (JF ks key=true/\JP ks (Zy rs)) (.findD (findD ks key 0 rs) (fun j d=>Ea nx i es rs j d)
   (lI M.C.T et fun z=> .kZ i (.deep true es (rs++ [[.v key, .v z]])) (.uz [z, .int .i64 (rs.length:Int)])))).ok O nx v O' vW):
 ∃uK w' r η',w.heap[e.g]?=some (.map uK uK.size)/\(Instr.checkKey false 10000 kt u).run M.P w= .ok () w/\
  (do match<-Instr.findKey kt u uK.toList with
    |some (k,x)=>do
     let k'<-Instr.keyThatStays (((uK[k]?).map (·.key)).getD u) u
     setObj e.g (.map (uK.modify k fun e'=>{e' with key:=k'}) uK.size)
     pure (.tuple #[x,goInt (((uK[k]?).map (·.born)).getD 0)])
    |none=>do
     let z<-zeroValue et
     setObj e.g (.map (uK.push {key:=u,val:=z,born:=uK.size}) (uK.size+1))
     pure (.tuple #[z,goInt uK.size]):Sem Value).run M.P w= .ok r w'/\K<+:η'/\vR M η' w' O' vW/\Den η' v r:=by
 obtain⟨⟨fh,hro⟩,hr⟩:=hr;have u9:=(A.H.own.1 i _ hb).1;have kQ:=u9;simp only[vT,Env.get]at kQ;obtain⟨⟨⟨e',uK,h1,h2,h3,h4,h5⟩,_⟩,_⟩:=kQ;rw[show K.get (.loc i)=some (some e)from he]at h1;injection h1 with h1;injection h1 with h1;subst h1
 have hm:UF K (Zy rs) uK:=⟨h4,h5⟩
 obtain⟨f,hf,uP,hval⟩:=Vw A.T hks fh hdk (w:=w) hro (s4 (es:=uK.toList) (i:=0) (by simpa using hm.1) fun j row hj=>by
  obtain⟨en,g1,g2,g3⟩:=hm.2 j row hj
  exact⟨en,by simpa using g1,by omega,g3⟩)
 have eE:=(A.T.key kt ks hks).1 w K false key u fh hdk;rw[Wg]at uP;have eW:uK.size=rs.length:=by rw[h4,Ya]
 cases hq:findD ks key 0 rs with
 |none=>
  rw[hq]at uP hr;have uP:f=none:=uP;subst uP;obtain⟨z,zv,hz,cz,hr⟩:=QK A hr;obtain⟨rfl,rfl,rfl⟩:=hr;have hp:=P8 (es:=es) hm hdk cz
  have g1:(setObj e.g (.map (uK.push ⟨u,zv,uK.size⟩) (uK.size+1))).run M.P w= .ok () (X5 w e.g (uK.push ⟨u,zv,uK.size⟩)):=by
   simp[setObj,Sem.run,h3,X5]
  refine⟨uK,_, .tuple #[zv, .int .i64 (rs.length:Int)],K,h3,eE,by simp[hf,hz,goInt];rw[g1];simp[eW],zu,EX A.H hb he h3 hp.1 hp.2,?_⟩;simp only[Den,vV];exact⟨_,rfl,_,_,rfl,cz,_,_,rfl,rfl,rfl⟩
 |some p=>
  obtain⟨j,d⟩:=p;rw[hq]at uP hr;obtain⟨xv,rfl,eF⟩:=uP;obtain⟨en,mu,uv⟩:=hval j xv rfl;obtain⟨k0,_,k2,k3⟩:=F6 hq;rw[Nat.sub_zero]at k2;have aR:uK[j]?=some en:=by simpa using mu
  have hfr:(Zy rs)[j]?=some [ZS k0,ZS d]:=by rw[Y9,k2];rfl
  obtain⟨cu,n1,n2,n3⟩:=hm.2 j _ hfr;rw[aR]at n1;injection n1 with n1;subst n1
  simp only[vV]at n3;obtain⟨_,_,e1,js,_,_,e2,pe,e3⟩:=n3;cases e1;cases e2
  obtain⟨heq,mE⟩:=F5 k3 hdk js
  have wF:(uK.modify j fun e=>{e with key:=u})=uK:=by
   apply xN;intro a;rw[yh];split
   rename_i hja;subst hja;rw[aR,heq];rfl
   rfl
  have g1:(setObj e.g (.map uK uK.size)).run M.P w= .ok () w:=by
   have:(setObj e.g (.map uK uK.size)).run M.P w= .ok () (X5 w e.g uK):=by simp[setObj,Sem.run,h3,X5]
   rwa [Pa h3]at this
  have hrun:(do match<-Instr.findKey kt u uK.toList with
   |some (k,x)=>do
    let k'<-Instr.keyThatStays (((uK[k]?).map (·.key)).getD u) u
    setObj e.g (.map (uK.modify k fun e'=>{e' with key:=k'}) uK.size)
    pure (.tuple #[x,goInt (((uK[k]?).map (·.born)).getD 0)])
   |none=>do
    let z<-zeroValue et
    setObj e.g (.map (uK.push {key:=u,val:=z,born:=uK.size}) (uK.size+1))
    pure (.tuple #[z,goInt uK.size]):Sem Value).run M.P w= .ok (.tuple #[xv, .int .i64 (j:Int)]) w:=by
   simp[hf,aR,<-heq,Fb mE,wF,g1,goInt,n2]
  simp only[Ea]at hr;cases d with
  |v s=>
   obtain⟨rfl,rfl,rfl⟩:=hr;refine⟨uK,w,_,K,h3,eE,hrun,zu,A.H,?_⟩;simp only[Den,vV];exact⟨_,rfl,_,_,rfl,eF,_,_,rfl,rfl,rfl⟩
  |uA es' rows=>
   obtain⟨rfl,rfl,rfl⟩:=hr;obtain⟨x,hH⟩:=A.H.take hb k2 (c:=1) rfl;rw[Wi k2];have hsome:(u5 i O).isSome:=by rw[hb];rfl
   have pz:i≠nx:=fun h=>by have:=A.H.lt hb;omega
   have hs2:=(hH.own.1 i (.deep true es (uB rs j 1 (.v (.sl (.loc nx) 0 es' rows.length none)))) (by rw[Z8,z7 pz,Y1 i _ O i hsome,zf rfl])).1;obtain⟨e2,o2,v2,q1,q2,q3,q4,_⟩:=UP hs2 (r:=j) (c:=1) (row:=[k0, .v (.sl (.loc nx) 0 es' rows.length none)]) (by rw[Yl,zf rfl,k2];rfl) rfl;have qm:(K++ [x]).get (.loc i)=some (some e):=Env.uc (zz _ _) he;rw[qm]at q1;injection q1 with q1;injection q1 with q1;subst q1
   rw[h3]at q2;injection q2 with q2;subst q2
   simp only[ZI,aR,Option.map_some,zi]at q3;subst q3 uv;refine⟨uK,w,_,_,h3,eE,hrun,zz _ _,hH,?_⟩;rw[Den];simp only[vV];exact⟨_,rfl,_,_,rfl,q4,_,_,rfl,rfl,rfl⟩
theorem I8(A:At M K w O nx ρ lk)(t:TypeId)(m k:Operand)(hr:(w5 M.C lk O nx (.mapEntry t m k)).ok O nx v O' vW):Y7 M K w ⟨dst, .mapEntry t m k,ty,pos,af,gd⟩ ρ v O' vW:=by
 simp only[w5,AL]at hr;split at hr
 case h_2=>exact hr.elim
 rename_i kt et hs;obtain⟨d,hd,hm⟩:=A.T.qC t (by rw[hs];simp);rw[hs]at hm;simp only[qx]at hm;subst hm;split at hr
 case h_2=>exact hr.elim
 rename_i ks hks;split at hr
 case h_2=>exact hr.elim
 rename_i key hi;split at hr
 case h_2=>exact hr.elim
 rename_i i lV;split at hr
 case h_3=>exact hr.elim
 case h_2=>
  rename_i es rs hb;have uv:=A.L _ _ lV;simp only[Den,Env.get]at uv;obtain⟨e,he,hv⟩:=uv;obtain⟨uK,w',r,η',g1,g2,g3,g4,g5,g6⟩:=I7 A hks (A.L _ _ hi) he hb hr
  have hrun:(Instr.mapEntry t (ρ m) (ρ k)).run M.P w= .ok r w':=by
   rw[<-g3];simp[Instr.mapEntry,Z6 hd,hv,JH g1,g2]
   rfl
  exact⟨r,w',η', .inl (by simp[execOp,hrun]),g4,g5,g6,fun h=>by cases h⟩
 rename_i rs hb;obtain⟨⟨fh,hro⟩,hr⟩:=hr;have uv:=A.L _ _ lV;simp only[Den,Env.get]at uv;obtain⟨e,he,hv⟩:=uv;obtain⟨u9,_⟩:=A.H.own.1 i _ hb;simp only[vT,Env.get]at u9;obtain⟨e',es,h1,h2,h3,h4⟩:=u9;rw[he]at h1;cases h1;have hm:UF K rs es:=h4;have hdk:=A.L _ _ hi
 obtain⟨f,hf,uP⟩:=Ua A.T hks fh hdk (w:=w) hro (s4 (es:=es.toList) (i:=0) (by simpa using hm.1) fun j row hj=>by
  obtain⟨en,g1,g2,g3⟩:=hm.2 j row hj
  exact⟨en,by simpa using g1,by omega,g3⟩)
 have eE:=(A.T.key kt ks hks).1 w K false key (ρ k) fh hdk;cases hq:Xs ks key 0 rs with
 |none=>
  rw[hq]at uP hr;have uP:f=none:=uP;subst uP;obtain⟨z,zv,hz,cz,hr⟩:=QK A hr;obtain⟨rfl,rfl,rfl⟩:=hr;obtain⟨g1,g2⟩:=map_set A.H hb he h2 h3 (EW hm hdk cz);rw[Array.size_push]at g1;refine⟨.tuple #[zv, .int .i64 (rs.length:Int)],_,K, .inl (by simp[execOp,Instr.mapEntry,Z6 hd,hv,JH h3,eE,hf,hz];rw[g1];simp[goInt,hm.1]),zu,g2,?_,fun h=>by cases h⟩;simp only[Den,vV];exact⟨_,rfl,_,_,rfl,cz,_,_,rfl,rfl,rfl⟩
 |some p=>
  obtain⟨j,u⟩:=p;rw[hq]at uP hr;obtain⟨xv,rfl,eF⟩:=uP;obtain⟨rfl,rfl,rfl⟩:=hr;obtain⟨k0,_,k2,k3⟩:=EU hq;rw[Nat.sub_zero]at k2;obtain⟨en,n1,n2,n3⟩:=hm.2 j _ k2;simp only[vV]at n3;obtain⟨_,_,e1,js,_,_,e2,_,e3⟩:=n3;cases e1;cases e2
  obtain⟨heq,mE⟩:=F5 k3 hdk js
  have wF:(es.modify j fun e=>{e with key:=ρ k})=es:=by
   apply xN;intro a;rw[yh];split
   rename_i hja;subst hja;rw[n1,heq];rfl
   rfl
  obtain⟨g1,g2⟩:=map_set A.H hb he h2 h3 hm;rw[Pa h3]at g1;refine⟨.tuple #[xv, .int .i64 (j:Int)],w,K, .inl (by simp[execOp,Instr.mapEntry,Z6 hd,hv,JH h3,eE,hf,n1,<-heq,Fb mE,wF];rw[g1];simp[goInt,n2]),zu,A.H,?_,fun h=>by cases h⟩;simp only[Den,vV];exact⟨_,rfl,_,_,rfl,eF,_,_,rfl,rfl,rfl⟩
theorem I9(H:vR M K w O nx){i es r c:Nat}{rs:List (List DC)}{row:List DC}{d0:DC}{s:SV}{u:Value}{e:wZ}{arr:Array Value}{T:TypeId}{fz:Nat×Nat}(hb:u5 i O=some (.deep false es rs))(he:K[i]?=some (some e))(hw:w.heap[e.g]?=some (.cells arr T fz))(hrow:rs[r]?=some row)(hc:row[c]?=some d0)(hd:Den K s u)(h1:u.oneCell'=true)
 {w':World} (hw':w'.heap[e.g]?=some (.cells (arr.toList.take (r*es+c)++ [u]++arr.toList.drop (r*es+c+1)).toArray T fz)) (wG:∀k,k≠e.g->w'.heap[k]?=w.heap[k]?) (hsz:w'.heap.size=w.heap.size) (ho:w'.os=w.os) (ht:w'.tape=w.tape) (hp:w'.output=w.output) (ga:w.drawn<=w'.drawn):
 r*es+c+1<=arr.size/\vR M K w' (uI i (.deep false es (uB rs r c (.v s))) O) nx:=by
 have u9:=(H.own.1 i _ hb).1;have kQ:=u9;obtain⟨_,hD,_⟩:=u9.wJ;have hbase:=(hD e he).1;have hK:=(hD e he).2 _ hw;simp only[vT]at kQ;obtain⟨d1,_⟩:=kQ;have hfr:(Zy rs)[r]?=some (row.map ZS):=by rw[Y9,hrow];rfl
 have EZ:=(ze.1 hc).1;rcases d1 with⟨h,_⟩|⟨e',Ia,T',fz',q1,q2,q3,q4⟩
 rw[show K.get (.loc i)=some (some e)from he]at h;cases h;rw[show K.get (.loc i)=some (some e)from he]at q1;injection q1 with q1;injection q1 with q1;subst q1
 rw[hw]at q2;injection q2 with q2;injection q2 with q2 Ib Ic;subst q2 Ib Ic
 obtain⟨g1,g2,g3,g4⟩:=q3 rfl;rw[g4]at q4;have hdl:vV K [s] [u]:=by simp only[vV];exact⟨_,_,rfl,hd,rfl⟩
 obtain⟨hfit,hrows⟩:=OH (c:=c) g2 g3 q4 hfr hdl (fun x hx=>by rw[zI.1 hx];exact h1) (by simp;omega);simp only[List.length_singleton]at hfit hrows
 have wK:(row.map ZS).take c++ [s]++(row.map ZS).drop (c+1)=(row.set c (.v s)).map ZS:=by
  rw[vj,List.set_eq_take_append_cons_drop,zf (by simpa using EZ)];simp[ZS]
 rw[wK]at hrows
 have lW:(Zy rs).set r ((row.set c (.v s)).map ZS)=Zy (uB rs r c (.v s)):=by
  apply yu;intro a;rw[Wh,xB];by_cases ha:r=a
  .subst ha;have:=(ze.1 hfr).1;simp only[zf,hfr,Option.map_some,yJ,this,vj]
  rw[z7 ha,z7 (fun h=>ha h.symm)]
 rw[lW]at hrows;have hrl:row.length=es:=by have:=(q4 r _ hfr).1;simpa using this
 have qI:∀a,a≠r*es+c->(arr.toList.take (r*es+c)++ [u]++arr.toList.drop (r*es+c+1)).toArray[a]?=arr[a]?:=by
  intro a ha;rw[yX,zR,List.getElem?_append];split
  .rename_i hlt;rw[zq,Array.length_toList]at hlt;rw[zS,zf (by omega),Array.getElem?_toList]
  .rename_i hge;rw[zq,Array.length_toList,x7 (by omega)]at hge⊢;rw[List.singleton_append,List.getElem?_cons,z7 (by omega),y6,Array.getElem?_toList];congr 1;omega
 have QL:(arr.toList.take (r*es+c)++ [u]++arr.toList.drop (r*es+c+1)).toArray.size=arr.size:=by
  simp only[ye,zh,zq,zD,Array.length_toList,List.length_singleton];omega
 have wY:∀a b y,Ye (uB rs r c (.v s)) a b=some y->Ye rs a b=some y/\ZI (.cells (arr.toList.take (r*es+c)++ [u]++arr.toList.drop (r*es+c+1)).toArray T fz) es a b=ZI (.cells arr T fz) es a b:=by
  intro a b y h;obtain⟨h5,h6⟩:=JZ h;refine⟨h5,qI _ fun hab=>h6 ?_⟩;obtain⟨y1,y2⟩:=y;obtain⟨QM,h7,h8⟩:=uk.1 h5;have hal:QM.length=es:=by have:=(q4 a (QM.map ZS) (by rw[Y9,h7];rfl)).1;simpa using this
  have aS:=(ze.1 h8).1
  have key:∀{a b r c:Nat},b<es->c<es->a<r->a*es+b=r*es+c->False:=by
   intro a b r c hb hc har he;have:(a+1)*es<=r*es:=ym _ har;rw[yC]at this;omega
  rcases Nat.lt_trichotomy a r with h9|rfl|h9
  exact(key (by omega) (by omega) h9 hab).elim;exact⟨rfl,by omega⟩;exact(key (by omega) (by omega) h9 hab.symm).elim
 refine⟨hfit,H.bF hb he wG hsz ho ht hp ?_ ga fun m fm=>?_⟩
 .refine vT.qM (mp:=false) (.inr ⟨e,_,T,fz,show K.get (.loc i)=some (some e)from he,hw',fun _=>⟨by rw[QL];exact g1,by rw[QL];exact g2,by rw[<-lW,xO];exact g3,g4⟩,by rw[g4];exact hrows⟩) (fun h=>by cases h) fun e' h2=>?_;rw[show K.get (.loc i)=some (some e)from he]at h2;injection h2 with h2;injection h2 with h2;subst h2
  refine⟨hbase,fun o' ho'=>?_⟩;rw[hw']at ho';injection ho' with ho';subst ho'
  refine⟨fun a b gW fN hk=>?_,fun a b a' b' y y' z z' k h1 h2 h3 h4 h5 h6=>?_⟩
  .obtain⟨p1,p2⟩:=wY a b _ hk;obtain⟨z,p3,p4,p5⟩:=hK.sat a b _ _ p1;refine⟨z,p2.trans p3,p4.keep fun k hz=>wG k fun e=>?_,p5⟩;subst e;exact p5 hz
  .obtain⟨p1,p2⟩:=wY a b _ h1;obtain⟨p1',p2'⟩:=wY a' b' _ h2;exact hK.ne a b a' b' y y' z z' k p1 p1' (p2▸h3) (p2'▸h4) h5 h6
 .rcases fm.of (e:=e) (show K.get (.loc i)=some (some e)from he)with rfl|fm
  exact vY.own he
  .simp only[uA]at fm;obtain⟨o',a,b,y,z,f1,f2,f3,f4⟩:=fm;rw[hw']at f1;injection f1 with f1;subst f1
   obtain⟨p1,p2⟩:=wY a b _ f2;exact⟨e,he, .inr (by simp only[uA];exact⟨_,a,b,y,z,hw,p1,p2▸f3,f4⟩)⟩
theorem Ie(A:At M K w O nx ρ lk)(t:TypeId)(x y:Operand)(hr:(w5 M.C lk O nx (.store t x y)).ok O nx v O' vW):Y7 M K w ⟨dst, .store t x y,ty,pos,af,gd⟩ ρ v O' vW:=by
 simp only[w5,An]at hr;split at hr
 exact hr.elim;rename_i hok;have hsh:M.C.T.sh t≠ .other:=by intro h;simp[qE,h]at hok
 split at hr
 exact hr.elim;rename_i oW;have oW:=Jv oW;split at hr
 case h_2=>exact hr.elim
 rename_i p hx;split at hr
 case h_2=>exact hr.elim
 rename_i sv hy;split at hr
 .rename_i i r es c;split at hr
  .rename_i es' rs hb;split at hr
   case h_2=>exact hr.elim
   rename_i wF hs1;have wF:=Zr wF;have hs1:=Zr hs1;subst wF;split at hr
   case h_2=>exact hr.elim
   rename_i s hvs;have uv:=A.L _ _ hx;have qf:=A.L _ _ hy;simp only[Den]at uv;obtain⟨e,he,hv⟩:=uv;cases hcd:ot rs r c with
   |none=>rw[hcd]at hr;exact hr.elim
   |some q=>
    obtain⟨a,d0⟩:=q;rw[hcd]at hr;have hr:(rU M.C.T t O i (fun d=> .deep false es (rs.modify r fun row=>row.set c d)) s).ok O nx v O' vW:=hr;obtain⟨row,hrow,hcell⟩:=P6 hcd;obtain⟨h5,h6⟩:=UM qf hvs;simp only[vV]at h5;obtain⟨u,us,h5,h7,h8⟩:=h5;have u9:=(A.H.own.1 i _ hb).1;simp only[vT]at u9;obtain⟨d1,hD⟩:=u9;rcases d1 with⟨h,_⟩|⟨e',arr,T,fz,q1,q2,q3,q4⟩
    rw[he]at h;cases h;rw[he]at q1;injection q1 with q1;injection q1 with q1;subst q1
    obtain⟨g1,g2,g3,g4⟩:=q3 rfl;obtain⟨ie,hie,uR,_⟩:=A.T.info t hsh;have Ig:us=[]:=h8;subst Ig;have hone:∀z∈ [u],z.oneCell'=true:=fun z hz=>h6 z (by rw[h5];exact hz)
    have hfit:r*es+c+1<=arr.size:=by
     have hfr:(Zy rs)[r]?=some (row.map ZS):=by rw[Y9,hrow];rfl
     obtain⟨_,g6⟩:=q4 r _ hfr;obtain⟨z,g7,_⟩:=g6 c (ZS d0) (by rw[z6,hcell];rfl);rw[g4]at g7;have:=(zA.1 g7).1;omega
    have hst:=X2 (P:=M.P) e.g (r*es+c) T fz [u] 0 arr w q2 (by simpa using hfit) g1 hone;simp only[Nat.add_zero]at hst
    have hcs:(ρ y).cells.size=ie.size:=by
     have:(ρ y).cells.toList.length=M.C.T.size t:=by rw[h5,hs1];rfl
     rw[uR];simpa using this
    obtain⟨_,hH⟩:=I9 A.H hb he q2 hrow hcell h7 (hone u (zI.2 rfl)) (setRow_heap w e.g arr _ T fz q2) (fun k hk=>setRow_other w e.g k _ hk) (setRow_size _ _ _) rfl rfl rfl (zo _);have hsome:(u5 i O).isSome:=by rw[hb];rfl
    obtain⟨H2,rfl,rfl⟩:=EO hr (mp:=false) (es:=es) (ow:=uB rs r c (.v s)) (r:=r) (c:=c) (row:=row.set c (.v s)) (fun d=>by rw[qZ];rfl) rfl (by rw[Yl,zf rfl,hrow];rfl) (by rw[List.getElem?_set_self (ze.1 hcell).1]) hsome hH;refine⟨undef,_,K, .inr ⟨?_,rfl⟩,zu,H2,V8 K,fun h=>by cases h⟩;rw[g4,zx]at hv;simp only[execOp,hv,Instr.storeAt,Instr.sureAddr,storeVar,Sem.run_bind,Sem.run_pure,Result.andThen_ok,Zt hie,Sem.run_ite,hcs];rw[z7 (by simp)];simp only[Sem.run_bind,Sem.run_pure,Result.andThen_ok,h5,hst]
    rfl
  exact OJ A t x y hsh oW hx hy hr
 exact OJ A t x y hsh oW hx hy hr
end
section
variable {M:Mx}{K:Env}{w:World}{O:vX}{nx:Nat}{ρ:Operand->Value}{lk:Operand->Option SV}{v:SV}{O':vX}{vW:Nat}{dst:Option Tmp}{ty:TypeId}{pos:String}{af:Array Edge}{gd:Option (Nat×Bool)}
theorem Pb{rs:List (List SV)}{es:Array MapEntry}(hm:UF K rs es){n:Int}(h0:0<=n)(h1:n< (rs.length:Int)):es.findIdx? (fun e=>(e.born:Int)==n)=some n.toNat:=by
 have at':∀(j:Nat) (hj:j<es.size),es[j].born=j:=fun j hj=>by
  obtain⟨e,e1,e2,_⟩:=hm.2 j _ (z1 (by rw[<-hm.1];exact hj));rw[yL hj]at e1;injection e1 with e1;rw[e1];exact e2
 have hn:n.toNat<es.size:=by rw[hm.1];omega
 rw[Array.findIdx?_eq_some_iff_getElem];refine⟨hn,?_,fun j hj=>?_⟩;rw[at' _ hn];simp;omega;rw[at' j (by omega)];simp;omega
theorem Ih(A:At M K w O nx ρ lk)(t:TypeId)(m k x:Operand)(hr:(w5 M.C lk O nx (.entryStore t m k x)).ok O nx v O' vW):Y7 M K w ⟨dst, .entryStore t m k x,ty,pos,af,gd⟩ ρ v O' vW:=by
 simp only[w5,AO]at hr;split at hr
 case h_2=>exact hr.elim
 rename_i kn n hi;split at hr
 case h_2=>exact hr.elim
 rename_i sv hx;split at hr
 case h_2=>exact hr.elim
 rename_i i lV;split at hr
 case h_3=>exact hr.elim
 case h_2=>
  rename_i es rs hb;split at hr
  case h_2=>exact hr.elim
  rename_i kt et hs;obtain⟨⟨hn0,pF⟩,hr⟩:=hr;have uv:=A.L _ _ lV;simp only[Den,Env.get]at uv;obtain⟨e,he,hv⟩:=uv;have u9:=(A.H.own.1 i _ hb).1;simp only[vT,Env.get]at u9;obtain⟨⟨⟨e',uK,h1,h2,h3,h4,h5⟩,_⟩,_⟩:=u9;rw[show K.get (.loc i)=some (some e)from he]at h1;injection h1 with h1;injection h1 with h1;subst h1
  have hm:UF K (Zy rs) uK:=⟨h4,h5⟩;have hsome:(u5 i O).isSome:=by rw[hb];rfl
  have hdk:ρ k= .int kn n:=A.L _ _ hi;have eF:=A.L _ _ hx;have hlt:n.toNat<rs.length:=by omega
  have fP:rs[n.toNat]?=some rs[n.toNat]:=z1 hlt;have sx:(Zy rs)[n.toNat]?=some (rs[n.toNat].map ZS):=by rw[Y9,fP];rfl
  obtain⟨en,n1,n2,n3⟩:=hm.2 _ _ sx
  obtain⟨k0,d0,hkv,js⟩:∃k0 d0,rs[n.toNat]=[k0,d0]/\Den K (ZS k0) en.key:=by
   cases hq:rs[n.toNat]with
   |nil=>rw[hq]at n3;simp[vV]at n3
   |cons a l=>
    rw[hq]at n3;cases l with
    |nil=>simp[vV]at n3
    |cons b l=>
     cases l with
     |nil=>simp only[zG,yP,vV]at n3;obtain⟨_,_,e1,d1,_⟩:=n3;cases e1;exact⟨a,b,rfl,d1⟩
     |cons c l=>
      simp only[zG,vV]at n3;obtain⟨_,_,e1,_,_,_,e2,_,_,_,e3,_⟩:=n3;cases e1;cases e2;cases e3
  rw[hkv]at fP
  have hmod:(uK.modify n.toNat fun e=>{e with key:=en.key,val:=ρ x})=uK.modify n.toNat fun e=>{e with val:=ρ x}:=by
   apply xN;intro a;rw[yh,yh];split
   rename_i hja;subst hja;rw[n1];rfl
   rfl
  obtain⟨hp1,hp2⟩:=EY (es:=es) hm fP n1 js eF;rw[hmod]at hp1 hp2;obtain⟨H2,rfl,rfl⟩:=EO hr (mp:=true) (es:=es) (ow:=uB rs n.toNat 1 (.v sv)) (r:=n.toNat) (c:=1) (row:=[k0, .v sv]) (fun d=>by rw[Wi fP,qZ]) (by rw[Wi fP]) (by rw[Yl,zf rfl,fP];rfl) rfl hsome (by rw[Wi fP];exact EX A.H hb he h3 hp1 hp2)
  have g1:(setObj e.g (.map (uK.modify n.toNat fun e=>{e with val:=ρ x}) uK.size)).run M.P w= .ok () (X5 w e.g (uK.modify n.toNat fun e=>{e with val:=ρ x})):=by
   simp[setObj,Sem.run,h3,X5]
  exact⟨undef,_,K, .inr ⟨by simp[execOp,Instr.entryStore,hv,JH h3,hdk,asInt,asIntOf,Pb hm hn0 (by rw[Ya];exact pF)];rw[g1];rfl,rfl⟩,zu,H2,V8 K,fun h=>by cases h⟩
 rename_i rs hb;obtain⟨⟨hn0,pF⟩,rfl,rfl,rfl⟩:=hr;have uv:=A.L _ _ lV;simp only[Den,Env.get]at uv;obtain⟨e,he,hv⟩:=uv;obtain⟨u9,_⟩:=A.H.own.1 i _ hb;simp only[vT,Env.get]at u9;obtain⟨e',es,h1,h2,h3,h4⟩:=u9;rw[he]at h1;cases h1;have hm:UF K rs es:=h4;have hdk:ρ k= .int kn n:=A.L _ _ hi;have eF:=A.L _ _ hx;have hlt:n.toNat<rs.length:=by omega
 have hrow:rs[n.toNat]?=some rs[n.toNat]:=z1 hlt;obtain⟨en,n1,n2,n3⟩:=hm.2 _ _ hrow
 obtain⟨k0,v0,hkv,js⟩:∃k0 v0,rs[n.toNat]=[k0,v0]/\Den K k0 en.key:=by
  cases hq:rs[n.toNat]with
  |nil=>rw[hq]at n3;simp[vV]at n3
  |cons a l=>
   rw[hq]at n3;cases l with
   |nil=>simp[vV]at n3
   |cons b l=>
    cases l with
    |nil=>simp only[vV]at n3;obtain⟨_,_,e1,d1,_⟩:=n3;cases e1;exact⟨a,b,rfl,d1⟩
    |cons c l=>
     simp only[vV]at n3;obtain⟨_,_,e1,_,_,_,e2,_,_,_,e3,_⟩:=n3;cases e1;cases e2;cases e3
 rw[hkv]at hrow
 have hmod:(es.modify n.toNat fun e=>{e with key:=en.key,val:=ρ x})=es.modify n.toNat fun e=>{e with val:=ρ x}:=by
  apply xN;intro a;rw[yh,yh];split
  rename_i hja;subst hja;rw[n1];rfl
  rfl
 have hput:=EV hm hrow js eF;rw[hmod]at hput;obtain⟨g1,g2⟩:=map_set A.H hb he h2 h3 hput;rw[vP]at g1;exact⟨undef,_,K, .inr ⟨by simp[execOp,Instr.entryStore,hv,JH h3,hdk,asInt,asIntOf,Pb hm hn0 pF];rw[g1];rfl,rfl⟩,zu,g2,V8 K,fun h=>by cases h⟩
end
end Go.Sx
