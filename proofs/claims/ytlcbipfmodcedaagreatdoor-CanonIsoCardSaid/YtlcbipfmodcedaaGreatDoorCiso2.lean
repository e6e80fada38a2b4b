/- Part 2: SxOpsN, SxOpsP, SxOpsQ. Conditions: as each part says. -/
import Derived.Test.YtlcbipfmodcedaaGreatDoorCiso0
set_option linter.unusedVariables false
set_option linter.unusedSimpArgs false
namespace Go.Sx
open Go
section
variable {M:Mx}{K:Env}{w:World}{O:u0}{nx:Nat}{ρ:Operand->Value}{lk:Operand->Option SV}{v:SV}{O':u0}{vZ:Nat}{dst:Option Tmp}{ty:TypeId}{pos:String}{af:Array Edge}{gd:Option (Nat×Bool)}
theorem ZhX(H:vU M K w O nx):vU M (K++ [some ⟨w.heap.size,0,0⟩]) (YU w (.map #[] 0)) ((nx, .mp [])::O) (nx+1):=by
 refine H.alloc (w':=YU w (.map #[] 0)) rfl rfl rfl rfl 0 0 ?_;simp only[vV];exact⟨_, #[],ZS H.len _,rfl,Yo (w:=w) (w':=YU w (.map #[] 0)) rfl,rfl,fun i row h=>by simp at h⟩
theorem Zcw(A:At M K w O nx ρ lk)(t:TypeId)(r:Option Operand)(hr:(wj M.C lk O nx (.makeMap t r)).ok O nx v O' vZ):Y9 M K w ⟨dst, .makeMap t r,ty,pos,af,gd⟩ ρ v O' vZ:=by
 have fin:(uz.new (.mp (.loc nx)) (.mp [])).ok O nx v O' vZ->(Instr.makeMap t (r.map ρ)).run M.P w= .ok (.map (some w.heap.size)) (YU w (.map #[] 0))->Y9 M K w ⟨dst, .makeMap t r,ty,pos,af,gd⟩ ρ v O' vZ:=by
  rintro⟨rfl,rfl,rfl⟩ hrun;exact⟨_,_,_, .inl (by simp[execOp,hrun];rfl),zD _ _,ZhX A.H,by simp only[Den];exact⟨_,ZS A.H.len _,rfl⟩,fun _ h=>absurd h (by simp)⟩
 simp only[wj,Oq]at hr;cases r with
 |none=>exact fin hr (by simp[Instr.makeMap,newObj];rfl)
 |some x=>
  simp only at hr;split at hr
  case h_2=>exact hr.elim
  rename_i kt et hs;split at hr
  case h_2=>exact hr.elim
  rename_i k n hx;obtain⟨d,hd,hm⟩:=A.T.qY t (by rw[hs];simp);rw[hs]at hm;simp only[qV]at hm;subst hm;have uu:ρ x= .int k n:=A.L _ _ hx;exact fin hr (by simp[Instr.makeMap,newObj,Z5 hd,uu,asInt];rfl)
theorem Kg(A:At M K w O nx ρ lk){t:TypeId}{f:SV->uz}(hr:(lX M.C.T t f).ok O nx v O' vZ):∃z zv,(zeroValue t).run M.P w= .ok zv w/\Den K z zv/\(f z).ok O nx v O' vZ:=by
 unfold lX at hr;split at hr
 exact hr.elim;rename_i c cs hz;split at hr
 case h_2=>exact hr.elim
 rename_i z ho;have hsh:M.C.T.sh t≠ .other:=by intro h;simp[Yu,h]at ho
 obtain⟨i,zv,h1,h2,h3⟩:=WB A.T hsh (by rw[hz];simp) (by rw[hz];exact ho) K;exact⟨z,zv,XH h1 h2 w,h3,hr⟩
theorem Vm{z:SV}{zv:Value}{ok b:Bool}(h:Den K z zv):Den K (lY ok z b) (if ok=true then .tuple #[zv, .bool b]else zv):=by
 cases ok with
 |false=>exact h
 |true=>simp only[lY,Den,vX];exact⟨[zv, .bool b],rfl,zv,_,rfl,h,_,[],rfl,rfl,rfl⟩
theorem UJ{rs:List (List DC)}{j:Nat}{k v d:DC}(h:rs[j]?=some [k,v]):rs.modify j (jU d)=uw rs j 1 d:=by
 unfold uw;apply yj;intro i;rw[ym,ym];by_cases hi:j=i
 subst hi;rw[h];rfl;simp[hi]
theorem Z5j(A:At M K w O nx ρ lk){kt et:TypeId}{ks:Bool×List CK}{key:SV}{ok:Bool}{b:wG}{u:Value}{e:qJ}(hks:M.C.T.key kt=some ks)(hdk:Den K key u)(he:K.get b=some (some e))
 (hr:(ER M.C O nx ks et key ok b).ok O nx v O' vZ):∃es r η',w.heap[e.g]?=some (.map es es.size)/\(Instr.checkKey es.isEmpty 10000 kt u).run M.P w= .ok () w/\
   (do let(v,ok')<-match<-Instr.findKey kt u es.toList with
     |some (_,v)=>pure (v,true)
     |none=>pure (<-zeroValue et,false)
       pure (if ok=true then .tuple #[v, .bool ok']else v):Sem Value).run M.P w= .ok r w/\K<+:η'/\vU M η' w O' vZ/\Den η' v r:=by
 unfold ER at hr;split at hr
 case h_2=>exact hr.elim
 rename_i i;split at hr
 case h_2=>exact hr.elim
 rename_i es rs hb;obtain⟨⟨fG,hro⟩,hr⟩:=hr;have uc:=(A.H.own.1 i _ hb).1;have jC:=uc;simp only[vV]at jC;obtain⟨⟨⟨e',uN,h1,h2,h3,h4,h5⟩,_⟩,_⟩:=jC;rw[he]at h1;injection h1 with h1;injection h1 with h1;subst h1
 obtain⟨f,hf,uT,hval⟩:=JY A.T hks fG hdk (w:=w) hro (WC (es:=uN.toList) (i:=0) (by simpa using h4) fun j row hj=>by
  obtain⟨en,g1,g2,g3⟩:=h5 j row hj
  exact⟨en,by simpa using g1,by omega,g3⟩)
 have eR:=(A.T.key kt ks hks).1 w K uN.isEmpty key u fG hdk;rw[UH]at uT;cases hm:findD ks key 0 rs with
 |none=>
  rw[hm]at hr uT;obtain⟨z,zv,hz,cV,hr⟩:=Kg A hr;have uT:f=none:=uT;subst uT;obtain⟨rfl,rfl,rfl⟩:=hr;exact⟨uN,_,K,h3,eR,by simp[hf,hz],zx,A.H,Vm cV⟩
 |some p=>
  obtain⟨j,d⟩:=p;rw[hm]at hr uT;simp only[Option.map_some]at uT;obtain⟨xv,rfl,eS⟩:=uT;obtain⟨en,sD,uu⟩:=hval j xv rfl;obtain⟨k0,_,hrow,_⟩:=FD hm;rw[Nat.sub_zero]at hrow;simp only[Ot]at hr;cases d with
  |v s=>
   obtain⟨rfl,rfl,rfl⟩:=hr;exact⟨uN,_,K,h3,eR,by simp[hf],zx,A.H,Vm eS⟩
  |uC es' rows=>
   obtain⟨rfl,rfl,rfl⟩:=hr;obtain⟨x,hH⟩:=A.H.take hb hrow (c:=1) rfl;rw[UJ hrow];have hsome:(u6 i O).isSome:=by rw[hb];rfl
   have pL:i≠nx:=fun h=>by have:=A.H.lt hb;omega
   have hs2:=(hH.own.1 i (.deep true es (uw rs j 1 (.v (.sl (.loc nx) 0 es' rows.length none)))) (by rw[Z6,z6 pL,Y5 i _ O i hsome,z8 rfl])).1;obtain⟨e2,o2,v2,q1,q2,q3,q4,_⟩:=Ui hs2 (r:=j) (c:=1) (row:=[k0, .v (.sl (.loc nx) 0 es' rows.length none)]) (by rw[Y1,z8 rfl,hrow];rfl) rfl;have kJ:(K++ [x]).get (.loc i)=some (some e):=Env.ug (zD _ _) he;rw[kJ]at q1;injection q1 with q1;injection q1 with q1;subst q1
   rw[h3]at q2;injection q2 with q2;subst q2
   have oa:uN[j]?=some en:=by simpa using sD
   simp only[ZY,oa,Option.map_some,zh]at q3;subst q3 uu;exact⟨uN,_,_,h3,eR,by simp[hf],zD _ _,hH,Vm q4⟩
theorem Zfp(A:At M K w O nx ρ lk)(t:TypeId)(x i:Operand)(ok:Bool)(hr:(wj M.C lk O nx (.lookup t x i ok)).ok O nx v O' vZ):Y9 M K w ⟨dst, .lookup t x i ok,ty,pos,af,gd⟩ ρ v O' vZ:=by
 simp only[wj,Ou]at hr;split at hr
 case h_2=>exact hr.elim
 rename_i kt et hs;obtain⟨d,hd,hm⟩:=A.T.qY t (by rw[hs];simp);rw[hs]at hm;simp only[qV]at hm;subst hm;split at hr
 case h_2=>exact hr.elim
 rename_i ks hks;split at hr
 case h_2=>exact hr.elim
 rename_i key hi;have rj:=P4 A.L hi;split at hr
 .rename_i b hx;split at hr
  case h_2=>
   have uu:=A.L _ _ hx;simp only[Den]at uu;obtain⟨e,he,hv⟩:=uu;obtain⟨es,r,η',g1,g2,g3,g4,g5,g6⟩:=Z5j A hks rj he hr
   have hrun:(Instr.lookup t (ρ x) (ρ i) ok).run M.P w= .ok r w:=by
    rw[<-g3];simp[Instr.lookup,Z5 hd,hv,Jk g1,g2]
    rfl
   exact⟨r,w,η', .inl (by simp[execOp,hrun]),g4,g5,g6,fun _ _=>rfl⟩
  rename_i rs hb;obtain⟨⟨fG,hro⟩,hr⟩:=hr;have uu:=A.L _ _ hx;simp only[Den]at uu;obtain⟨e,he,hv⟩:=uu;have uc:=A.H.look hb;simp only[vV]at uc;obtain⟨e',es,h1,h2,h3,h4,h5⟩:=uc;rw[he]at h1;cases h1
  obtain⟨f,hf,uT⟩:=VC A.T hks fG rj (w:=w) hro (WC (es:=es.toList) (i:=0) (by simpa using h4) fun j row hj=>by
   obtain⟨en,g1,g2,g3⟩:=h5 j row hj
   exact⟨en,by simpa using g1,by omega,g3⟩)
  have eR:=(A.T.key kt ks hks).1 w K es.isEmpty key (ρ i) fG rj;cases hm:X1 ks key 0 rs with
  |some p=>
   obtain⟨j,u⟩:=p;rw[hm]at hr uT;obtain⟨xv,rfl,eS⟩:=uT;exact A.val hr ⟨_, .inl (by simp[execOp,Instr.lookup,Z5 hd,hv,Jk h3,eR,hf]),Vm eS⟩
  |none=>
   rw[hm]at hr uT;obtain⟨z,zv,hz,cV,hr⟩:=Kg A hr;have uT:f=none:=uT;subst uT;exact A.val hr ⟨_, .inl (by simp[execOp,Instr.lookup,Z5 hd,hv,Jk h3,eR,hf,hz]),Vm cV⟩
 .rename_i hx;obtain⟨fG,hr⟩:=hr;have hv:ρ x= .map none:=(A.L _ _ hx).1;have eR:=(A.T.key kt ks hks).1 w K true key (ρ i) fG rj;obtain⟨f,hf,uT⟩:=VC A.T hks fG rj (w:=w) (rs:=[]) (es:=[]) (fun r h=>by simp at h) trivial;have uT:f=none:=uT;subst uT;obtain⟨z,zv,hz,cV,hr⟩:=Kg A hr;exact A.val hr ⟨_, .inl (by simp[execOp,Instr.lookup,Z5 hd,hv,eR,hf,hz]),Vm cV⟩
 exact hr.elim
theorem PG{rs:List (List DC)}{r c a:Nat}{d:DC}(h:WT rs r c=some (a,d)):∃row,rs[r]?=some row/\row[c]?=some d:=by
 unfold WT at h;split at h
 .rename_i row hr;split at h
  .rename_i d' hc;injection h with h;injection h with _ h;subst h;exact⟨row,hr,hc⟩
  cases h
 cases h
theorem PI(hT:ux M.P M.C.T){own:Bool}{i es:Nat}{rs:List (List DC)}(d:vV K w own (.loc i) (.deep false es rs)){r c:Nat}{row:List DC}{sv v:SV}{e:qJ}{t:TypeId}
 (hr:rs[r]?=some row) (hc:row[c]?=some (.v sv)) (he:K.get (.loc i)=some (some e)) (h1:M.C.T.size t=1) (ho:Yu M.C.T t [sv]=some v):
 ∃u,(loadVar t ⟨e.g,e.base+(r*es+c),none⟩).run M.P w= .ok u w/\Den K v u:=by
 simp only[vV]at d;obtain⟨d1,_⟩:=d;have hfr:(ZA rs)[r]?=some (row.map Y0):=by rw[Yp,hr];rfl
 rcases d1 with⟨h,_⟩|⟨e',arr,T,fz,h2,h3,_,h4⟩
 rw[he]at h;cases h;rw[he]at h2;injection h2 with h2;injection h2 with h2;subst h2
 obtain⟨h5,h6⟩:=h4 r _ hfr
 have hp:Wv M.C.T t c (row.map Y0)= .val v:=by
  unfold Wv;have hlt:=(zg.1 hc).1
  have hd:(row.map Y0).drop c=sv::(row.map Y0).drop (c+1):=by
   rw[zQ (by simpa using hlt)];congr 1;have:=(zg.1 hc).2;rw[y9,this];rfl
  rw[hd,h1];simp only[o3,ho]
 obtain⟨_,_,u,hu,hd⟩:=Fw (v:=v) (O:=([]:u0)) (nx:=0) (O':=[]) (vZ:=0) hT h3 h6 (by rw[hp];exact⟨rfl,rfl,rfl⟩);exact⟨u,by rw[<-xx];exact hu,hd⟩
theorem ZjE(A:At M K w O nx ρ lk)(t:TypeId)(x:Operand)(hr:(wj M.C lk O nx (.load t x)).ok O nx v O' vZ):Y9 M K w ⟨dst, .load t x,ty,pos,af,gd⟩ ρ v O' vZ:=by
 simp only[wj,O5]at hr;split at hr
 case h_2=>exact hr.elim
 rename_i p hx
 have plain:∀{hr:(iY M.C.T (Yv M.C O) t p).ok O nx v O' vZ},Y9 M K w ⟨dst, .load t x,ty,pos,af,gd⟩ ρ v O' vZ:=fun{hr}=>by
  obtain⟨e1,e2,a,u,h1,h2,h3⟩:=P6 A.T A.H (A.L _ _ hx) hr;exact A.same (.inl (by simp[execOp,h1,Instr.loadAt,Instr.sureAddr,h2])) h3 e1 e2
 split at hr
 .rename_i i r es c;split at hr
  .rename_i es' rs hb;split at hr
   .rename_i wT hsz;have wT:=Zq wT;have hsz:=Zq hsz;subst wT;have uu:=A.L _ _ hx;simp only[Den]at uu;obtain⟨e,he,hv⟩:=uu;cases hcd:WT rs r c with
    |none=>rw[hcd]at hr;exact hr.elim
    |some p=>
     obtain⟨a,d⟩:=p;rw[hcd]at hr;have hr:(Fm M.C nx i es rs r c t d).ok O nx v O' vZ:=hr;obtain⟨row,hrow,hcell⟩:=PG hcd;have uc:=(A.H.own.1 i _ hb).1;cases d with
     |v sv=>
      simp only[Fm]at hr;split at hr
      .rename_i v0 ho;obtain⟨u,hu,hd⟩:=PI A.T uc hrow hcell he hsz ho;exact A.val hr ⟨u, .inl (by simp[execOp,hv,Instr.loadAt,Instr.sureAddr,hu]),hd⟩
      exact hr.elim
     |uC es' rows=>
      simp only[Fm]at hr;split at hr
      .rename_i q hs;obtain⟨rfl,rfl,rfl⟩:=hr;obtain⟨x,hH⟩:=A.H.take hb hrow hcell;have hsome:(u6 i O).isSome:=by rw[hb];rfl
       have pL:i≠nx:=fun h=>by have:=A.H.lt hb;omega
       have hs2:=(hH.own.1 i (.deep false es (uw rs r c (.v (.sl (.loc nx) 0 es' rows.length none)))) (by rw[Z6,z6 pL,Y5 i _ O i hsome,z8 rfl])).1;have kJ:(K++ [x]).get (.loc i)=some (some e):=Env.ug (zD _ _) he;obtain⟨u,hu,hd⟩:=PI A.T hs2 (r:=r) (c:=c) (row:=row.set c (.v (.sl (.loc nx) 0 es' rows.length none))) (by rw[Y1,z8 rfl,hrow];rfl) (by rw[List.getElem?_set_self (zg.1 hcell).1]) kJ hsz (v:= .sl (.loc nx) 0 es' rows.length none) (by simp only[Yu,hs]);exact⟨u,w,_, .inl (by simp[execOp,hv,Instr.loadAt,Instr.sureAddr,hu]),zD _ _,hH,hd,fun _ _=>rfl⟩
      exact hr.elim
   exact hr.elim
  exact plain (hr:=hr)
 exact plain (hr:=hr)
end
end Go.Sx
namespace Go.Sx
open Go
theorem DB{ks:Bool×List CK}{key:SV}:∀{rs:List (List SV)} {i j:Nat} {v:SV},X1 ks key i rs=some (j,v)->∃k,i<=j/\rs[j-i]?=some [k,v]/\Wx ks key k=true
 | [],i,j,v,h=>by simp[X1]at h
 |r::rs,i,j,v,h=>by
  unfold X1 at h;split at h
  .rename_i k u;split at h
   .rename_i hk;simp only[zh,yF]at h;obtain⟨rfl,rfl⟩:=h;exact⟨k,zn _,by simp,hk⟩
   .obtain⟨k',h1,h2,h3⟩:=DB h;refine⟨k',by omega,?_,h3⟩;have:j-i=(j-(i+1))+1:=by omega
    rw[this];simpa using h2
  cases h
section
variable {M:Mx}{K:Env}{w:World}{O:u0}{nx:Nat}{ρ:Operand->Value}{lk:Operand->Option SV}{v:SV}{O':u0}{vZ:Nat}{dst:Option Tmp}{ty:TypeId}{pos:String}{af:Array Edge}{gd:Option (Nat×Bool)}
def YV(w:World)(g:Nat)(es:Array MapEntry):World:={w with heap:=w.heap.setIfInBounds g (.map es es.size)}
def Ub(K:Env)(rs:List (List SV))(es:Array MapEntry):Prop:=es.size=rs.length/\∀j row,rs[j]?=some row->∃e:MapEntry,es[j]?=some e/\e.born=j/\vX K row [e.key,e.val]
theorem map_set(H:vU M K w O nx){i:Nat}{rs rs':List (List SV)}{en:qJ}{es es':Array MapEntry}(hh:u6 i O=some (.mp rs))(hb:K[i]?=some (some en))(h0:en.base=0)(h3:w.heap[en.g]?=some (.map es es.size))(hm:Ub K rs' es'):
 (setObj en.g (.map es' es'.size)).run M.P w= .ok () (YV w en.g es')/\vU M K (YV w en.g es') (uO i (.mp rs') O) nx:=by
 have hlt:en.g<w.heap.size:=(zC.1 h3).1;refine⟨by simp[setObj,Sem.run,h3,YV],?_⟩;refine H.jK hh hb (fun k hk=>?_) (by simp[YV]) rfl rfl rfl ?_;simp[YV,yT,yO hk]
 .simp only[vV,Env.get];exact⟨en,es',hb,h0,by simp[YV,hlt],hm.1,hm.2⟩
theorem DD{rs:List (List SV)}{es:Array MapEntry}(hm:Ub K rs es){j:Nat}{k v0 v:SV}{u x:Value}(hj:rs[j]?=some [k,v0])(hk:Den K k u)(hv:Den K v x):Ub K (rs.modify j (fM v)) (es.modify j fun e=>{e with key:=u,val:=x}):=by
 refine⟨by rw[xS,vJ];exact hm.1,fun a row ha=>?_⟩;rw[ym]at ha;cases hr:rs[a]? with
 |none=>rw[hr]at ha;cases ha
 |some r0=>
  rw[hr]at ha;obtain⟨e,e1,e2,e3⟩:=hm.2 a r0 hr;rw[y7,e1];by_cases hja:j=a
  .subst hja;rw[hj]at hr;cases hr;simp only[yH,Option.map_eq_map,Option.map_some,zh,fM]at ha;subst ha;refine⟨{e with key:=u,val:=x},by simp,e2,?_⟩;simp only[vX];exact⟨_,_,rfl,hk,_,_,rfl,hv,rfl⟩
  .simp only[z6 hja,Option.map_eq_map,Option.map_some,zh,id]at ha;subst ha;exact⟨e,by simp[hja],e2,e3⟩
theorem DE{rs:List (List SV)}{es:Array MapEntry}(hm:Ub K rs es){k v:SV}{u x:Value}(hk:Den K k u)(hv:Den K v x):Ub K (rs++ [[k,v]]) (es.push ⟨u,x,es.size⟩):=by
 refine⟨by simp[hm.1],fun a row ha=>?_⟩;rw[vh];by_cases hl:a<rs.length
 .rw[zu hl]at ha;obtain⟨e,e1,e2,e3⟩:=hm.2 a row ha;exact⟨e,by rw[z6 (by rw[hm.1];omega)];exact e1,e2,e3⟩
 .rw[zz (by omega)]at ha
  have:a-rs.length=0:=by
   cases hq:a-rs.length with
   |zero=>rfl
   |succ n=>rw[hq]at ha;simp at ha
  rw[this]at ha;simp only[List.getElem?_cons_zero,zh]at ha;subst ha;have:a=es.size:=by rw[hm.1];omega
  subst this;refine⟨⟨u,x,es.size⟩,by simp,rfl,?_⟩;simp only[vX];exact⟨_,_,rfl,hk,_,_,rfl,hv,rfl⟩
theorem FI{u:Value}(h:Instr.sameBits 10000 u u=true)(w:World):(Instr.keyThatStays u u).run M.P w= .ok u w:=by simp[Instr.keyThatStays,h]
theorem qy{rs:List (List DC)}{r c:Nat}{d d':DC}:uw (uw rs r c d) r c d'=uw rs r c d':=by
 apply yj;intro a;rw[Y1,Y1,Y1];by_cases ha:a=r
 .subst ha;cases rs[a]?<;>simp
 simp[ha]
theorem Zcx{rs:List (List DC)}{k d d':DC}:rs++ [[k,d']]=uw (rs++ [[k,d]]) rs.length 1 d':=by
 apply yj;intro a;rw[Y1];by_cases ha:a=rs.length
 subst ha;simp
 .rw[z6 ha];by_cases hlt':a<rs.length
  rw[zu hlt',zu hlt'];rw[yd (by simp;omega),yd (by simp;omega)]
theorem DF(H:vU M K w O nx){i es:Nat}{rs oL:List (List DC)}{e:qJ}{uN kR:Array MapEntry}(hb:u6 i O=some (.deep true es rs))(he:K[i]?=some (some e))(h3:w.heap[e.g]?=some (.map uN uN.size))(hm':Ub K (ZA oL) kR)
 (ki:∀a b y,Yy oL a b=some y->Yy rs a b=some y/\ZY (.map kR kR.size) es a b=ZY (.map uN uN.size) es a b):vU M K (YV w e.g kR) (uO i (.deep true es oL) O) nx:=by
 have uc:=(H.own.1 i _ hb).1;obtain⟨_,hD,wT⟩:=uc.qD;have h2:=(hD e he).1;have hK:=(hD e he).2 _ h3;have hlt:e.g<w.heap.size:=(zC.1 h3).1;have wU:∀k,k≠e.g->(YV w e.g kR).heap[k]?=w.heap[k]?:=fun k hk=>by simp[YV,yT,yO hk]
 have pM:(YV w e.g kR).heap[e.g]?=some (.map kR kR.size):=by simp[YV,hlt]
 refine H.bT hb he wU (by simp[YV]) rfl rfl rfl ?_ (zn _) fun m fm=>?_
 .refine vV.j9 (⟨e,kR,show K.get (.loc i)=some (some e)from he,h2,pM,hm'.1,hm'.2⟩:gu K (YV w e.g kR) (.loc i) (ZA oL)) wT fun e' h1=>?_;rw[show K.get (.loc i)=some (some e)from he]at h1;injection h1 with h1;injection h1 with h1;subst h1
  refine⟨h2,fun o' ho=>?_⟩;rw[pM]at ho;injection ho with ho;subst ho
  refine⟨fun a b fF fS hk=>?_,fun a b a' b' y y' z z' k h1 h2 h3 h4 h5 h6=>?_⟩
  .obtain⟨q1,q2⟩:=ki a b _ hk;obtain⟨z,q3,q4,q5⟩:=hK.sat a b _ _ q1;refine⟨z,q2.trans q3,q4.keep fun k hz=>wU k fun e=>?_,q5⟩;subst e;exact q5 hz
  .obtain⟨q1,q2⟩:=ki a b _ h1;obtain⟨sJ,q2'⟩:=ki a' b' _ h2;exact hK.ne a b a' b' y y' z z' k q1 sJ (q2▸h3) (q2'▸h4) h5 h6
 .rcases fm.of (e:=e) (show K.get (.loc i)=some (some e)from he)with rfl|fm
  exact u5.own he
  .simp only[uC]at fm;obtain⟨o',a,b,y,z,f1,f2,f3,f4⟩:=fm;rw[pM]at f1;injection f1 with f1;subst f1
   obtain⟨q1,q2⟩:=ki a b _ f2;exact⟨e,he, .inr (by simp only[uC];exact⟨_,a,b,y,z,h3,q1,q2▸f3,f4⟩)⟩
theorem DG{rs:List (List DC)}{es j:Nat}{k0 d0:DC}{sv:SV}{uN:Array MapEntry}{en:MapEntry}{x:Value}(hm:Ub K (ZA rs) uN)(k2:rs[j]?=some [k0,d0])(n1:uN[j]?=some en)(jY:Den K (Y0 k0) en.key)(eS:Den K sv x):
 Ub K (ZA (uw rs j 1 (.v sv))) (uN.modify j fun e=>{e with key:=en.key,val:=x})/\
 ∀a b y,Yy (uw rs j 1 (.v sv)) a b=some y->Yy rs a b=some y/\ZY (.map (uN.modify j fun e=>{e with key:=en.key,val:=x}) (uN.modify j fun e=>{e with key:=en.key,val:=x}).size) es a b=ZY (.map uN uN.size) es a b:=by
 have hfr:(ZA rs)[j]?=some [Y0 k0,Y0 d0]:=by rw[Yp,k2];rfl
 refine⟨?_,fun a b y hk=>?_⟩
 .have:ZA (uw rs j 1 (.v sv))=(ZA rs).modify j (fM sv):=by
   apply yj;intro a;rw[UI,ym];by_cases ha:a=j
   subst ha;rw[z8 rfl,hfr];simp[fM,Y0]
   .have hja:¬j=a:=fun h=>ha h.symm;rw[z6 ha];simp[hja]
  rw[this];exact DD hm hfr jY eS
 .obtain⟨q1,q2⟩:=Ju hk;refine⟨q1,?_⟩;simp only[ZY];rw[y7];by_cases ha:j=a
  .subst ha;rw[z8 rfl,n1];obtain⟨y1,y2⟩:=y;obtain⟨row,r1,r2⟩:=uB.1 q1;rw[k2]at r1;injection r1 with r1;subst r1
   match b,r2,q2 with
   |0,_,_=>rfl
   |1,_,q2=>exact(q2 ⟨rfl,rfl⟩).elim
   |b+2,r2,_=>simp at r2
  rw[z6 ha]
theorem PJ{rs:List (List DC)}{es:Nat}{key sv:SV}{uN:Array MapEntry}{u x:Value}(hm:Ub K (ZA rs) uN)(hdk:Den K key u)(eS:Den K sv x):
 Ub K (ZA (rs++ [[.v key, .v sv]])) (uN.push ⟨u,x,uN.size⟩)/\
 ∀a b y,Yy (rs++ [[.v key, .v sv]]) a b=some y->Yy rs a b=some y/\ZY (.map (uN.push ⟨u,x,uN.size⟩) (uN.push ⟨u,x,uN.size⟩).size) es a b=ZY (.map uN uN.size) es a b:=by
 refine⟨?_,fun a b y hk=>?_⟩
 .have:ZA (rs++ [[.v key, .v sv]])=ZA rs++ [[key,sv]]:=by simp[ZA,Y0]
  rw[this];exact DE hm hdk eS
 .obtain⟨y1,y2⟩:=y;obtain⟨row,k1,k2⟩:=uB.1 hk;by_cases hlt':a<rs.length
  .rw[zu hlt']at k1;refine⟨uB.2 ⟨row,k1,k2⟩,?_⟩;simp only[ZY];rw[vh,z6 (by have:=hm.1;rw[Yc]at this;omega)]
  .rw[zz (by omega)]at k1;cases hz:a-rs.length with
   |succ n=>rw[hz]at k1;simp at k1
   |zero=>
    rw[hz]at k1;simp at k1;subst k1
    match b,k2 with
    |0,k2=>cases k2
    |1,k2=>cases k2
    |b+2,k2=>simp at k2
theorem Z22(A:At M K w O nx ρ lk){kt et:TypeId}{ks:Bool×List CK}{key sv:SV}{i es:Nat}{rs:List (List DC)}{u x:Value}{e:qJ}(hks:M.C.T.key kt=some ks)(hdk:Den K key u)(eS:Den K sv x)(he:K[i]?=some (some e))
 (hb:u6 i O=some (.deep true es rs)) (hr:(uz.need (Ji ks key=true/\Jn ks (ZA rs)) (Wy M.C.T et O i (fun d=> .deep true es (jl ks key d rs)) sv)).ok O nx v O' vZ):
 ∃uN w',w.heap[e.g]?=some (.map uN uN.size)/\(Instr.checkKey false 10000 kt u).run M.P w= .ok () w/\
  (do match<-Instr.findKey kt u uN.toList with
    |some (k,_)=>do
     let k'<-Instr.keyThatStays (((uN[k]?).map (·.key)).getD u) u
     setObj e.g (.map (uN.modify k fun e'=>{e' with key:=k',val:=x}) uN.size)
    |none=>setObj e.g (.map (uN.push {key:=u,val:=x,born:=uN.size}) (uN.size+1)):Sem Unit).run M.P w= .ok () w'/\vU M K w' O' vZ/\v= .uI []:=by
 obtain⟨⟨fG,hro⟩,hr⟩:=hr;have uc:=(A.H.own.1 i _ hb).1;obtain⟨_,hD,wT⟩:=uc.qD;have jC:=uc;simp only[vV,Env.get]at jC;obtain⟨⟨⟨e',uN,h1,h2,h3,h4,h5⟩,_⟩,_⟩:=jC;rw[show K.get (.loc i)=some (some e)from he]at h1;injection h1 with h1;injection h1 with h1;subst h1
 have hm:Ub K (ZA rs) uN:=⟨h4,h5⟩;have hK:=(hD e he).2 _ h3;have hlt:e.g<w.heap.size:=(zC.1 h3).1;have hsome:(u6 i O).isSome:=by rw[hb];rfl
 obtain⟨f,hf,uT,hval⟩:=JY A.T hks fG hdk (w:=w) hro (WC (es:=uN.toList) (i:=0) (by simpa using hm.1) fun j row hj=>by
  obtain⟨en,g1,g2,g3⟩:=hm.2 j row hj
  exact⟨en,by simpa using g1,by omega,g3⟩)
 have eR:=(A.T.key kt ks hks).1 w K false key u fG hdk;rw[UH]at uT
 have fin:∀{kR:Array MapEntry} {r:Nat} {k0:DC},(jl ks key (.v sv) rs)[r]?=some [k0, .v sv]->(∀d,jl ks key d rs=uw (jl ks key (.v sv) rs) r 1 d)->Ub K (ZA (jl ks key (.v sv) rs)) kR->
  (∀a b y,Yy (jl ks key (.v sv) rs) a b=some y->Yy rs a b=some y/\ZY (.map kR kR.size) es a b=ZY (.map uN uN.size) es a b)->
  (setObj e.g (.map kR kR.size)).run M.P w= .ok () (YV w e.g kR)/\vU M K (YV w e.g kR) O' vZ/\v= .uI []:=by
  intro kR r k0 hrow qo hm' ki;obtain⟨H2,rfl,rfl⟩:=Dw hr (mp:=true) (es:=es) (oL:=jl ks key (.v sv) rs) (r:=r) (c:=1) (fun d=>by rw[qo d]) rfl hrow rfl hsome (DF A.H hb he h3 hm' ki);exact⟨by simp[setObj,Sem.run,h3,YV],H2,rfl⟩
 cases hq:findD ks key 0 rs with
 |none=>
  rw[hq]at uT;have uT:f=none:=uT;subst uT;have hs:∀d,jl ks key d rs=rs++ [[.v key,d]]:=fun d=>by unfold jl;rw[hq]
  have hp:=PJ (es:=es) hm hdk eS;rw[<-hs]at hp
  obtain⟨g1,g2,g3⟩:=fin (kR:=uN.push ⟨u,x,uN.size⟩) (r:=rs.length) (k0:= .v key) (by rw[hs];simp) (fun d=>by
   rw[hs,hs]
   exact Zcx) hp.1 hp.2
  rw[Array.size_push]at g1;exact⟨uN,_,h3,eR,by simp[hf];rw[g1],g2,g3⟩
 |some p=>
  obtain⟨j,d0⟩:=p;rw[hq]at uT;obtain⟨xv,rfl,_⟩:=uT;obtain⟨k0,_,k2,k3⟩:=FD hq;rw[Nat.sub_zero]at k2;have hfr:(ZA rs)[j]?=some [Y0 k0,Y0 d0]:=by rw[Yp,k2];rfl
  obtain⟨en,n1,n2,n3⟩:=hm.2 j _ hfr;simp only[vX]at n3;obtain⟨_,_,e1,jY,_,_,e2,_,e3⟩:=n3;cases e1;cases e2
  obtain⟨heq,sQ⟩:=FC k3 hdk jY;have hs:∀d,jl ks key d rs=uw rs j 1 d:=fun d=>by unfold jl;rw[hq];exact UJ k2
  have hjl:j<rs.length:=(zg.1 k2).1;have hp:=DG (es:=es) hm k2 n1 jY eS;rw[<-hs]at hp
  obtain⟨g1,g2,g3⟩:=fin (kR:=uN.modify j fun e=>{e with key:=en.key,val:=x}) (r:=j) (k0:=k0) (by rw[hs,Y1,z8 rfl,k2];rfl) (fun d=>by
   rw[hs,hs]
   exact qy.symm) hp.1 hp.2
  rw[xS]at g1;rw[<-heq]at g1;exact⟨uN,_,h3,eR,by simp[hf,n1,<-heq,FI sQ];rw[g1],heq▸g2,g3⟩
theorem PK(A:At M K w O nx ρ lk)(t:TypeId)(m k x:Operand)(hr:(wj M.C lk O nx (.mapUpdate t m k x)).ok O nx v O' vZ):Y9 M K w ⟨dst, .mapUpdate t m k x,ty,pos,af,gd⟩ ρ v O' vZ:=by
 simp only[wj,ES]at hr;split at hr
 case h_2=>exact hr.elim
 rename_i kt et hs;obtain⟨d,hd,hm⟩:=A.T.qY t (by rw[hs];simp);rw[hs]at hm;simp only[qV]at hm;subst hm;split at hr
 case h_2=>exact hr.elim
 rename_i ks hks;split at hr
 case h_2=>exact hr.elim
 rename_i key hi;have rj:=P4 A.L hi;split at hr
 case h_2=>exact hr.elim
 rename_i sv hx;split at hr
 case h_2=>exact hr.elim
 rename_i i rq;split at hr
 case h_3=>exact hr.elim
 case h_2=>
  rename_i es rs hb;have uu:=A.L _ _ rq;simp only[Den,Env.get]at uu;obtain⟨e,he,hv⟩:=uu;obtain⟨uN,w',g1,g2,g3,g4,rfl⟩:=Z22 A hks rj (A.L _ _ hx) he hb hr
  have hrun:(Instr.mapUpdate t (ρ m) (ρ k) (ρ x)).run M.P w= .ok () w':=by
   rw[<-g3];simp[Instr.mapUpdate,Z5 hd,hv,Jk g1,g2]
   rfl
  exact⟨undef,w',K, .inr ⟨by simp[execOp,hrun],rfl⟩,zx,g4,JC K,fun h=>by cases h⟩
 rename_i rs hb;obtain⟨⟨fG,hro⟩,rfl,rfl,rfl⟩:=hr;have uu:=A.L _ _ rq;simp only[Den,Env.get]at uu;obtain⟨e,he,hv⟩:=uu;obtain⟨uc,_⟩:=A.H.own.1 i _ hb;simp only[vV,Env.get]at uc;obtain⟨e',es,h1,h2,h3,h4⟩:=uc;rw[he]at h1;cases h1;have hm:Ub K rs es:=h4;have hdk:=rj;have eS:=A.L _ _ hx
 obtain⟨f,hf,uT⟩:=VC A.T hks fG hdk (w:=w) hro (WC (es:=es.toList) (i:=0) (by simpa using hm.1) fun j row hj=>by
  obtain⟨en,g1,g2,g3⟩:=hm.2 j row hj
  exact⟨en,by simpa using g1,by omega,g3⟩)
 have eR:=(A.T.key kt ks hks).1 w K false key (ρ k) fG hdk;unfold jk;cases hq:X1 ks key 0 rs with
 |none=>
  rw[hq]at uT;have uT:f=none:=uT;subst uT;obtain⟨g1,g2⟩:=map_set A.H hb he h2 h3 (DE hm hdk eS);rw[Array.size_push]at g1;exact⟨undef,_,K, .inr ⟨by simp[execOp,Instr.mapUpdate,Z5 hd,hv,Jk h3,eR,hf];rw[g1];rfl,rfl⟩,zx,g2,JC K,fun h=>by cases h⟩
 |some p=>
  obtain⟨j,u⟩:=p;rw[hq]at uT;obtain⟨xv,rfl,_⟩:=uT;obtain⟨k0,_,k2,k3⟩:=DB hq;rw[Nat.sub_zero]at k2;obtain⟨en,n1,n2,n3⟩:=hm.2 j _ k2;simp only[vX]at n3;obtain⟨_,_,e1,jY,_,_,e2,_,e3⟩:=n3;cases e1;cases e2
  obtain⟨heq,sQ⟩:=FC k3 hdk jY;obtain⟨g1,g2⟩:=map_set A.H hb he h2 h3 (DD hm k2 (heq▸jY) eS);rw[xS]at g1;exact⟨undef,_,K, .inr ⟨by simp[execOp,Instr.mapUpdate,Z5 hd,hv,Jk h3,eR,hf,n1,<-heq,FI sQ];rw[g1];rfl,rfl⟩,zx,g2,JC K,fun h=>by cases h⟩
theorem Zfq(A:At M K w O nx ρ lk)(t:TypeId)(m k x:Operand)(hr:(wj M.C lk O nx (.insert t m k x)).ok O nx v O' vZ):Y9 M K w ⟨dst, .insert t m k x,ty,pos,af,gd⟩ ρ v O' vZ:=by
 obtain⟨u,w',η',h1,h2,h3,h4,_⟩:=PK (dst:=dst) (ty:=ty) (pos:=pos) (af:=af) (gd:=gd) A t m k x hr;exact⟨u,w',η',h1,h2,h3,h4,fun h=>by cases h⟩
theorem PL{w:World}{g:Nat}{es:Array MapEntry}(h:w.heap[g]?=some (.map es es.size)):YV w g es=w:=by
 have hh:w.heap.setIfInBounds g (.map es es.size)=w.heap:=by
  apply xL;intro k;rw[yT];split
  rename_i e;subst e;rw[h];simp[(zC.1 h).1]
  rfl
 unfold YV;rw[hh]
theorem Z2Z(A:At M K w O nx ρ lk){kt et:TypeId}{ks:Bool×List CK}{key:SV}{i es:Nat}{rs:List (List DC)}{u:Value}{e:qJ}(hks:M.C.T.key kt=some ks)(hdk:Den K key u)(he:K[i]?=some (some e))
 (hb:u6 i O=some (.deep true es rs)) (hr:(uz.need (Ji ks key=true/\Jn ks (ZA rs)) (.findD (findD ks key 0 rs) (fun j d=>ET nx i es rs j d)
   (lX M.C.T et fun z=> .jK i (.deep true es (rs++ [[.v key, .v z]])) (.uI [z, .int .i64 (rs.length:Int)])))).ok O nx v O' vZ):
 ∃uN w' r η',w.heap[e.g]?=some (.map uN uN.size)/\(Instr.checkKey false 10000 kt u).run M.P w= .ok () w/\
  (do match<-Instr.findKey kt u uN.toList with
    |some (k,x)=>do
     let k'<-Instr.keyThatStays (((uN[k]?).map (·.key)).getD u) u
     setObj e.g (.map (uN.modify k fun e'=>{e' with key:=k'}) uN.size)
     pure (.tuple #[x,goInt (((uN[k]?).map (·.born)).getD 0)])
    |none=>do
     let z<-zeroValue et
     setObj e.g (.map (uN.push {key:=u,val:=z,born:=uN.size}) (uN.size+1))
     pure (.tuple #[z,goInt uN.size]):Sem Value).run M.P w= .ok r w'/\K<+:η'/\vU M η' w' O' vZ/\Den η' v r:=by
 obtain⟨⟨fG,hro⟩,hr⟩:=hr;have uc:=(A.H.own.1 i _ hb).1;have jC:=uc;simp only[vV,Env.get]at jC;obtain⟨⟨⟨e',uN,h1,h2,h3,h4,h5⟩,_⟩,_⟩:=jC;rw[show K.get (.loc i)=some (some e)from he]at h1;injection h1 with h1;injection h1 with h1;subst h1
 have hm:Ub K (ZA rs) uN:=⟨h4,h5⟩
 obtain⟨f,hf,uT,hval⟩:=JY A.T hks fG hdk (w:=w) hro (WC (es:=uN.toList) (i:=0) (by simpa using hm.1) fun j row hj=>by
  obtain⟨en,g1,g2,g3⟩:=hm.2 j row hj
  exact⟨en,by simpa using g1,by omega,g3⟩)
 have eR:=(A.T.key kt ks hks).1 w K false key u fG hdk;rw[UH]at uT;have Kh:uN.size=rs.length:=by rw[h4,Yc]
 cases hq:findD ks key 0 rs with
 |none=>
  rw[hq]at uT hr;have uT:f=none:=uT;subst uT;obtain⟨z,zv,hz,cV,hr⟩:=Kg A hr;obtain⟨rfl,rfl,rfl⟩:=hr;have hp:=PJ (es:=es) hm hdk cV
  have g1:(setObj e.g (.map (uN.push ⟨u,zv,uN.size⟩) (uN.size+1))).run M.P w= .ok () (YV w e.g (uN.push ⟨u,zv,uN.size⟩)):=by
   simp[setObj,Sem.run,h3,YV]
  refine⟨uN,_, .tuple #[zv, .int .i64 (rs.length:Int)],K,h3,eR,by simp[hf,hz,goInt];rw[g1];simp[Kh],zx,DF A.H hb he h3 hp.1 hp.2,?_⟩;simp only[Den,vX];exact⟨_,rfl,_,_,rfl,cV,_,_,rfl,rfl,rfl⟩
 |some p=>
  obtain⟨j,d⟩:=p;rw[hq]at uT hr;obtain⟨xv,rfl,eS⟩:=uT;obtain⟨en,sD,uu⟩:=hval j xv rfl;obtain⟨k0,_,k2,k3⟩:=FD hq;rw[Nat.sub_zero]at k2;have oa:uN[j]?=some en:=by simpa using sD
  have hfr:(ZA rs)[j]?=some [Y0 k0,Y0 d]:=by rw[Yp,k2];rfl
  obtain⟨eP,n1,n2,n3⟩:=hm.2 j _ hfr;rw[oa]at n1;injection n1 with n1;subst n1
  simp only[vX]at n3;obtain⟨_,_,e1,jY,_,_,e2,pE,e3⟩:=n3;cases e1;cases e2
  obtain⟨heq,sQ⟩:=FC k3 hdk jY
  have wT:(uN.modify j fun e=>{e with key:=u})=uN:=by
   apply xL;intro a;rw[y7];split
   rename_i hja;subst hja;rw[oa,heq];rfl
   rfl
  have g1:(setObj e.g (.map uN uN.size)).run M.P w= .ok () w:=by
   have:(setObj e.g (.map uN uN.size)).run M.P w= .ok () (YV w e.g uN):=by simp[setObj,Sem.run,h3,YV]
   rwa [PL h3]at this
  have hrun:(do match<-Instr.findKey kt u uN.toList with
   |some (k,x)=>do
    let k'<-Instr.keyThatStays (((uN[k]?).map (·.key)).getD u) u
    setObj e.g (.map (uN.modify k fun e'=>{e' with key:=k'}) uN.size)
    pure (.tuple #[x,goInt (((uN[k]?).map (·.born)).getD 0)])
   |none=>do
    let z<-zeroValue et
    setObj e.g (.map (uN.push {key:=u,val:=z,born:=uN.size}) (uN.size+1))
    pure (.tuple #[z,goInt uN.size]):Sem Value).run M.P w= .ok (.tuple #[xv, .int .i64 (j:Int)]) w:=by
   simp[hf,oa,<-heq,FI sQ,wT,g1,goInt,n2]
  simp only[ET]at hr;cases d with
  |v s=>
   obtain⟨rfl,rfl,rfl⟩:=hr;refine⟨uN,w,_,K,h3,eR,hrun,zx,A.H,?_⟩;simp only[Den,vX];exact⟨_,rfl,_,_,rfl,eS,_,_,rfl,rfl,rfl⟩
  |uC es' rows=>
   obtain⟨rfl,rfl,rfl⟩:=hr;obtain⟨x,hH⟩:=A.H.take hb k2 (c:=1) rfl;rw[UJ k2];have hsome:(u6 i O).isSome:=by rw[hb];rfl
   have pL:i≠nx:=fun h=>by have:=A.H.lt hb;omega
   have hs2:=(hH.own.1 i (.deep true es (uw rs j 1 (.v (.sl (.loc nx) 0 es' rows.length none)))) (by rw[Z6,z6 pL,Y5 i _ O i hsome,z8 rfl])).1;obtain⟨e2,o2,v2,q1,q2,q3,q4,_⟩:=Ui hs2 (r:=j) (c:=1) (row:=[k0, .v (.sl (.loc nx) 0 es' rows.length none)]) (by rw[Y1,z8 rfl,k2];rfl) rfl;have kJ:(K++ [x]).get (.loc i)=some (some e):=Env.ug (zD _ _) he;rw[kJ]at q1;injection q1 with q1;injection q1 with q1;subst q1
   rw[h3]at q2;injection q2 with q2;subst q2
   simp only[ZY,oa,Option.map_some,zh]at q3;subst q3 uu;refine⟨uN,w,_,_,h3,eR,hrun,zD _ _,hH,?_⟩;rw[Den];simp only[vX];exact⟨_,rfl,_,_,rfl,q4,_,_,rfl,rfl,rfl⟩
theorem ZaU(A:At M K w O nx ρ lk)(t:TypeId)(m k:Operand)(hr:(wj M.C lk O nx (.mapEntry t m k)).ok O nx v O' vZ):Y9 M K w ⟨dst, .mapEntry t m k,ty,pos,af,gd⟩ ρ v O' vZ:=by
 simp only[wj,Ov]at hr;split at hr
 case h_2=>exact hr.elim
 rename_i kt et hs;obtain⟨d,hd,hm⟩:=A.T.qY t (by rw[hs];simp);rw[hs]at hm;simp only[qV]at hm;subst hm;split at hr
 case h_2=>exact hr.elim
 rename_i ks hks;split at hr
 case h_2=>exact hr.elim
 rename_i key hi;split at hr
 case h_2=>exact hr.elim
 rename_i i rq;split at hr
 case h_3=>exact hr.elim
 case h_2=>
  rename_i es rs hb;have uu:=A.L _ _ rq;simp only[Den,Env.get]at uu;obtain⟨e,he,hv⟩:=uu;obtain⟨uN,w',r,η',g1,g2,g3,g4,g5,g6⟩:=Z2Z A hks (A.L _ _ hi) he hb hr
  have hrun:(Instr.mapEntry t (ρ m) (ρ k)).run M.P w= .ok r w':=by
   rw[<-g3];simp[Instr.mapEntry,Z5 hd,hv,Jk g1,g2]
   rfl
  exact⟨r,w',η', .inl (by simp[execOp,hrun]),g4,g5,g6,fun h=>by cases h⟩
 rename_i rs hb;obtain⟨⟨fG,hro⟩,hr⟩:=hr;have uu:=A.L _ _ rq;simp only[Den,Env.get]at uu;obtain⟨e,he,hv⟩:=uu;obtain⟨uc,_⟩:=A.H.own.1 i _ hb;simp only[vV,Env.get]at uc;obtain⟨e',es,h1,h2,h3,h4⟩:=uc;rw[he]at h1;cases h1;have hm:Ub K rs es:=h4;have hdk:=A.L _ _ hi
 obtain⟨f,hf,uT⟩:=VC A.T hks fG hdk (w:=w) hro (WC (es:=es.toList) (i:=0) (by simpa using hm.1) fun j row hj=>by
  obtain⟨en,g1,g2,g3⟩:=hm.2 j row hj
  exact⟨en,by simpa using g1,by omega,g3⟩)
 have eR:=(A.T.key kt ks hks).1 w K false key (ρ k) fG hdk;cases hq:X1 ks key 0 rs with
 |none=>
  rw[hq]at uT hr;have uT:f=none:=uT;subst uT;obtain⟨z,zv,hz,cV,hr⟩:=Kg A hr;obtain⟨rfl,rfl,rfl⟩:=hr;obtain⟨g1,g2⟩:=map_set A.H hb he h2 h3 (DE hm hdk cV);rw[Array.size_push]at g1;refine⟨.tuple #[zv, .int .i64 (rs.length:Int)],_,K, .inl (by simp[execOp,Instr.mapEntry,Z5 hd,hv,Jk h3,eR,hf,hz];rw[g1];simp[goInt,hm.1]),zx,g2,?_,fun h=>by cases h⟩;simp only[Den,vX];exact⟨_,rfl,_,_,rfl,cV,_,_,rfl,rfl,rfl⟩
 |some p=>
  obtain⟨j,u⟩:=p;rw[hq]at uT hr;obtain⟨xv,rfl,eS⟩:=uT;obtain⟨rfl,rfl,rfl⟩:=hr;obtain⟨k0,_,k2,k3⟩:=DB hq;rw[Nat.sub_zero]at k2;obtain⟨en,n1,n2,n3⟩:=hm.2 j _ k2;simp only[vX]at n3;obtain⟨_,_,e1,jY,_,_,e2,_,e3⟩:=n3;cases e1;cases e2
  obtain⟨heq,sQ⟩:=FC k3 hdk jY
  have wT:(es.modify j fun e=>{e with key:=ρ k})=es:=by
   apply xL;intro a;rw[y7];split
   rename_i hja;subst hja;rw[n1,heq];rfl
   rfl
  obtain⟨g1,g2⟩:=map_set A.H hb he h2 h3 hm;rw[PL h3]at g1;refine⟨.tuple #[xv, .int .i64 (j:Int)],w,K, .inl (by simp[execOp,Instr.mapEntry,Z5 hd,hv,Jk h3,eR,hf,n1,<-heq,FI sQ,wT];rw[g1];simp[goInt,n2]),zx,A.H,?_,fun h=>by cases h⟩;simp only[Den,vX];exact⟨_,rfl,_,_,rfl,eS,_,_,rfl,rfl,rfl⟩
theorem ZcA(H:vU M K w O nx){i es r c:Nat}{rs:List (List DC)}{row:List DC}{d0:DC}{s:SV}{u:Value}{e:qJ}{arr:Array Value}{T:TypeId}{fz:Nat×Nat}(hb:u6 i O=some (.deep false es rs))(he:K[i]?=some (some e))(hw:w.heap[e.g]?=some (.cells arr T fz))(hrow:rs[r]?=some row)(hc:row[c]?=some d0)(hd:Den K s u)(h1:u.oneCell'=true)
 {w':World} (hw':w'.heap[e.g]?=some (.cells (arr.toList.take (r*es+c)++ [u]++arr.toList.drop (r*es+c+1)).toArray T fz)) (wU:∀k,k≠e.g->w'.heap[k]?=w.heap[k]?) (hsz:w'.heap.size=w.heap.size) (ho:w'.os=w.os) (ht:w'.tape=w.tape) (hp:w'.output=w.output) (fB:w.drawn<=w'.drawn):
 r*es+c+1<=arr.size/\vU M K w' (uO i (.deep false es (uw rs r c (.v s))) O) nx:=by
 have uc:=(H.own.1 i _ hb).1;have jC:=uc;obtain⟨_,hD,_⟩:=uc.qD;have hbase:=(hD e he).1;have hK:=(hD e he).2 _ hw;simp only[vV]at jC;obtain⟨d1,_⟩:=jC;have hfr:(ZA rs)[r]?=some (row.map Y0):=by rw[Yp,hrow];rfl
 have DH:=(zg.1 hc).1;rcases d1 with⟨h,_⟩|⟨e',z0y,T',fz',q1,q2,q3,q4⟩
 rw[show K.get (.loc i)=some (some e)from he]at h;cases h;rw[show K.get (.loc i)=some (some e)from he]at q1;injection q1 with q1;injection q1 with q1;subst q1
 rw[hw]at q2;injection q2 with q2;injection q2 with q2 q2b q2c;subst q2 q2b q2c
 obtain⟨g1,g2,g3,g4⟩:=q3 rfl;rw[g4]at q4;have hdl:vX K [s] [u]:=by simp only[vX];exact⟨_,_,rfl,hd,rfl⟩
 obtain⟨hfit,hrows⟩:=Pj (c:=c) g2 g3 q4 hfr hdl (fun x hx=>by rw[zJ.1 hx];exact h1) (by simp;omega);simp only[List.length_singleton]at hfit hrows
 have qo:(row.map Y0).take c++ [s]++(row.map Y0).drop (c+1)=(row.set c (.v s)).map Y0:=by
  rw[xZ,List.set_eq_take_append_cons_drop,z8 (by simpa using DH)];simp[Y0]
 rw[qo]at hrows
 have ru:(ZA rs).set r ((row.set c (.v s)).map Y0)=ZA (uw rs r c (.v s)):=by
  apply yj;intro a;rw[UI,xl];by_cases ha:r=a
  .subst ha;have:=(zg.1 hfr).1;simp only[z8,hfr,Option.map_some,yH,this,xZ]
  rw[z6 ha,z6 (fun h=>ha h.symm)]
 rw[ru]at hrows;have hrl:row.length=es:=by have:=(q4 r _ hfr).1;simpa using this
 have kK:∀a,a≠r*es+c->(arr.toList.take (r*es+c)++ [u]++arr.toList.drop (r*es+c+1)).toArray[a]?=arr[a]?:=by
  intro a ha;rw[yJ,zR,List.getElem?_append];split
  .rename_i hlt;rw[zA,Array.length_toList]at hlt;rw[y4,z8 (by omega),Array.getElem?_toList]
  .rename_i hge;rw[zA,Array.length_toList,xN (by omega)]at hge⊢;rw[List.singleton_append,List.getElem?_cons,z6 (by omega),ye,Array.getElem?_toList];congr 1;omega
 have Ki:(arr.toList.take (r*es+c)++ [u]++arr.toList.drop (r*es+c+1)).toArray.size=arr.size:=by
  simp only[yc,ze,zA,zW,Array.length_toList,List.length_singleton];omega
 have ki:∀a b y,Yy (uw rs r c (.v s)) a b=some y->Yy rs a b=some y/\ZY (.cells (arr.toList.take (r*es+c)++ [u]++arr.toList.drop (r*es+c+1)).toArray T fz) es a b=ZY (.cells arr T fz) es a b:=by
  intro a b y h;obtain⟨h5,h6⟩:=Ju h;refine⟨h5,kK _ fun hab=>h6 ?_⟩;obtain⟨y1,y2⟩:=y;obtain⟨Kj,h7,h8⟩:=uB.1 h5;have hal:Kj.length=es:=by have:=(q4 a (Kj.map Y0) (by rw[Yp,h7];rfl)).1;simpa using this
  have eF:=(zg.1 h8).1
  have key:∀{a b r c:Nat},b<es->c<es->a<r->a*es+b=r*es+c->False:=by
   intro a b r c hb hc har he;have:(a+1)*es<=r*es:=yl _ har;rw[yB]at this;omega
  rcases Nat.lt_trichotomy a r with h9|rfl|h9
  exact(key (by omega) (by omega) h9 hab).elim;exact⟨rfl,by omega⟩;exact(key (by omega) (by omega) h9 hab.symm).elim
 refine⟨hfit,H.bT hb he wU hsz ho ht hp ?_ fB fun m fm=>?_⟩
 .refine vV.j9 (mp:=false) (.inr ⟨e,_,T,fz,show K.get (.loc i)=some (some e)from he,hw',fun _=>⟨by rw[Ki];exact g1,by rw[Ki];exact g2,by rw[<-ru,vG];exact g3,g4⟩,by rw[g4];exact hrows⟩) (fun h=>by cases h) fun e' h2=>?_;rw[show K.get (.loc i)=some (some e)from he]at h2;injection h2 with h2;injection h2 with h2;subst h2
  refine⟨hbase,fun o' ho'=>?_⟩;rw[hw']at ho';injection ho' with ho';subst ho'
  refine⟨fun a b fF fS hk=>?_,fun a b a' b' y y' z z' k h1 h2 h3 h4 h5 h6=>?_⟩
  .obtain⟨p1,p2⟩:=ki a b _ hk;obtain⟨z,p3,p4,p5⟩:=hK.sat a b _ _ p1;refine⟨z,p2.trans p3,p4.keep fun k hz=>wU k fun e=>?_,p5⟩;subst e;exact p5 hz
  .obtain⟨p1,p2⟩:=ki a b _ h1;obtain⟨p1',p2'⟩:=ki a' b' _ h2;exact hK.ne a b a' b' y y' z z' k p1 p1' (p2▸h3) (p2'▸h4) h5 h6
 .rcases fm.of (e:=e) (show K.get (.loc i)=some (some e)from he)with rfl|fm
  exact u5.own he
  .simp only[uC]at fm;obtain⟨o',a,b,y,z,f1,f2,f3,f4⟩:=fm;rw[hw']at f1;injection f1 with f1;subst f1
   obtain⟨p1,p2⟩:=ki a b _ f2;exact⟨e,he, .inr (by simp only[uC];exact⟨_,a,b,y,z,hw,p1,p2▸f3,f4⟩)⟩
theorem ZhY(A:At M K w O nx ρ lk)(t:TypeId)(x y:Operand)(hr:(wj M.C lk O nx (.store t x y)).ok O nx v O' vZ):Y9 M K w ⟨dst, .store t x y,ty,pos,af,gd⟩ ρ v O' vZ:=by
 simp only[wj,O6]at hr;split at hr
 exact hr.elim;rename_i hok;have hsh:M.C.T.sh t≠ .other:=by intro h;simp[kf,h]at hok
 split at hr
 exact hr.elim;rename_i pq;have pq:=Jb pq;split at hr
 case h_2=>exact hr.elim
 rename_i p hx;split at hr
 case h_2=>exact hr.elim
 rename_i sv hy;split at hr
 .rename_i i r es c;split at hr
  .rename_i es' rs hb;split at hr
   case h_2=>exact hr.elim
   rename_i wT hs1;have wT:=Zq wT;have hs1:=Zq hs1;subst wT;split at hr
   case h_2=>exact hr.elim
   rename_i s hvs;have uu:=A.L _ _ hx;have qC:=A.L _ _ hy;simp only[Den]at uu;obtain⟨e,he,hv⟩:=uu;cases hcd:WT rs r c with
   |none=>rw[hcd]at hr;exact hr.elim
   |some q=>
    obtain⟨a,d0⟩:=q;rw[hcd]at hr;have hr:(Wy M.C.T t O i (fun d=> .deep false es (rs.modify r fun row=>row.set c d)) s).ok O nx v O' vZ:=hr;obtain⟨row,hrow,hcell⟩:=PG hcd;obtain⟨h5,h6⟩:=Uf qC hvs;simp only[vX]at h5;obtain⟨u,us,h5,h7,h8⟩:=h5;have uc:=(A.H.own.1 i _ hb).1;simp only[vV]at uc;obtain⟨d1,hD⟩:=uc;rcases d1 with⟨h,_⟩|⟨e',arr,T,fz,q1,q2,q3,q4⟩
    rw[he]at h;cases h;rw[he]at q1;injection q1 with q1;injection q1 with q1;subst q1
    obtain⟨g1,g2,g3,g4⟩:=q3 rfl;obtain⟨ie,hie,uV,_⟩:=A.T.info t hsh;have DI:us=[]:=h8;subst DI;have hone:∀z∈ [u],z.oneCell'=true:=fun z hz=>h6 z (by rw[h5];exact hz)
    have hfit:r*es+c+1<=arr.size:=by
     have hfr:(ZA rs)[r]?=some (row.map Y0):=by rw[Yp,hrow];rfl
     obtain⟨_,g6⟩:=q4 r _ hfr;obtain⟨z,g7,_⟩:=g6 c (Y0 d0) (by rw[z7,hcell];rfl);rw[g4]at g7;have:=(zC.1 g7).1;omega
    have hst:=YR (P:=M.P) e.g (r*es+c) T fz [u] 0 arr w q2 (by simpa using hfit) g1 hone;simp only[Nat.add_zero]at hst
    have hcs:(ρ y).cells.size=ie.size:=by
     have:(ρ y).cells.toList.length=M.C.T.size t:=by rw[h5,hs1];rfl
     rw[uV];simpa using this
    obtain⟨_,hH⟩:=ZcA A.H hb he q2 hrow hcell h7 (hone u (zJ.2 rfl)) (setRow_heap w e.g arr _ T fz q2) (fun k hk=>setRow_other w e.g k _ hk) (setRow_size _ _ _) rfl rfl rfl (zn _);have hsome:(u6 i O).isSome:=by rw[hb];rfl
    obtain⟨H2,rfl,rfl⟩:=Dw hr (mp:=false) (es:=es) (oL:=uw rs r c (.v s)) (r:=r) (c:=c) (row:=row.set c (.v s)) (fun d=>by rw[qy];rfl) rfl (by rw[Y1,z8 rfl,hrow];rfl) (by rw[List.getElem?_set_self (zg.1 hcell).1]) hsome hH;refine⟨undef,_,K, .inr ⟨?_,rfl⟩,zx,H2,JC K,fun h=>by cases h⟩;rw[g4,zw]at hv;simp only[execOp,hv,Instr.storeAt,Instr.sureAddr,storeVar,Sem.run_bind,Sem.run_pure,Result.andThen_ok,Zr hie,Sem.run_ite,hcs];rw[z6 (by simp)];simp only[Sem.run_bind,Sem.run_pure,Result.andThen_ok,h5,hst]
    rfl
  exact Pm A t x y hsh pq hx hy hr
 exact Pm A t x y hsh pq hx hy hr
end
section
variable {M:Mx}{K:Env}{w:World}{O:u0}{nx:Nat}{ρ:Operand->Value}{lk:Operand->Option SV}{v:SV}{O':u0}{vZ:Nat}{dst:Option Tmp}{ty:TypeId}{pos:String}{af:Array Edge}{gd:Option (Nat×Bool)}
theorem PN{rs:List (List SV)}{es:Array MapEntry}(hm:Ub K rs es){n:Int}(h0:0<=n)(h1:n< (rs.length:Int)):es.findIdx? (fun e=>(e.born:Int)==n)=some n.toNat:=by
 have at':∀(j:Nat) (hj:j<es.size),es[j].born=j:=fun j hj=>by
  obtain⟨e,e1,e2,_⟩:=hm.2 j _ (z1 (by rw[<-hm.1];exact hj));rw[yM hj]at e1;injection e1 with e1;rw[e1];exact e2
 have hn:n.toNat<es.size:=by rw[hm.1];omega
 rw[Array.findIdx?_eq_some_iff_getElem];refine⟨hn,?_,fun j hj=>?_⟩;rw[at' _ hn];simp;omega;rw[at' j (by omega)];simp;omega
theorem Z6N(A:At M K w O nx ρ lk)(t:TypeId)(m k x:Operand)(hr:(wj M.C lk O nx (.entryStore t m k x)).ok O nx v O' vZ):Y9 M K w ⟨dst, .entryStore t m k x,ty,pos,af,gd⟩ ρ v O' vZ:=by
 simp only[wj,Ow]at hr;split at hr
 case h_2=>exact hr.elim
 rename_i kn n hi;split at hr
 case h_2=>exact hr.elim
 rename_i sv hx;split at hr
 case h_2=>exact hr.elim
 rename_i i rq;split at hr
 case h_3=>exact hr.elim
 case h_2=>
  rename_i es rs hb;split at hr
  case h_2=>exact hr.elim
  rename_i kt et hs;obtain⟨⟨hn0,cW⟩,hr⟩:=hr;have uu:=A.L _ _ rq;simp only[Den,Env.get]at uu;obtain⟨e,he,hv⟩:=uu;have uc:=(A.H.own.1 i _ hb).1;simp only[vV,Env.get]at uc;obtain⟨⟨⟨e',uN,h1,h2,h3,h4,h5⟩,_⟩,_⟩:=uc;rw[show K.get (.loc i)=some (some e)from he]at h1;injection h1 with h1;injection h1 with h1;subst h1
  have hm:Ub K (ZA rs) uN:=⟨h4,h5⟩;have hsome:(u6 i O).isSome:=by rw[hb];rfl
  have hdk:ρ k= .int kn n:=A.L _ _ hi;have eS:=A.L _ _ hx;have hlt:n.toNat<rs.length:=by omega
  have fU:rs[n.toNat]?=some rs[n.toNat]:=z1 hlt;have sR:(ZA rs)[n.toNat]?=some (rs[n.toNat].map Y0):=by rw[Yp,fU];rfl
  obtain⟨en,n1,n2,n3⟩:=hm.2 _ _ sR
  obtain⟨k0,d0,hkv,jY⟩:∃k0 d0,rs[n.toNat]=[k0,d0]/\Den K (Y0 k0) en.key:=by
   cases hq:rs[n.toNat]with
   |nil=>rw[hq]at n3;simp[vX]at n3
   |cons a l=>
    rw[hq]at n3;cases l with
    |nil=>simp[vX]at n3
    |cons b l=>
     cases l with
     |nil=>simp only[zL,yX,vX]at n3;obtain⟨_,_,e1,d1,_⟩:=n3;cases e1;exact⟨a,b,rfl,d1⟩
     |cons c l=>
      simp only[zL,vX]at n3;obtain⟨_,_,e1,_,_,_,e2,_,_,_,e3,_⟩:=n3;cases e1;cases e2;cases e3
  rw[hkv]at fU
  have hmod:(uN.modify n.toNat fun e=>{e with key:=en.key,val:=ρ x})=uN.modify n.toNat fun e=>{e with val:=ρ x}:=by
   apply xL;intro a;rw[y7,y7];split
   rename_i hja;subst hja;rw[n1];rfl
   rfl
  obtain⟨hp1,hp2⟩:=DG (es:=es) hm fU n1 jY eS;rw[hmod]at hp1 hp2;obtain⟨H2,rfl,rfl⟩:=Dw hr (mp:=true) (es:=es) (oL:=uw rs n.toNat 1 (.v sv)) (r:=n.toNat) (c:=1) (row:=[k0, .v sv]) (fun d=>by rw[UJ fU,qy]) (by rw[UJ fU]) (by rw[Y1,z8 rfl,fU];rfl) rfl hsome (by rw[UJ fU];exact DF A.H hb he h3 hp1 hp2)
  have g1:(setObj e.g (.map (uN.modify n.toNat fun e=>{e with val:=ρ x}) uN.size)).run M.P w= .ok () (YV w e.g (uN.modify n.toNat fun e=>{e with val:=ρ x})):=by
   simp[setObj,Sem.run,h3,YV]
  exact⟨undef,_,K, .inr ⟨by simp[execOp,Instr.entryStore,hv,Jk h3,hdk,asInt,asIntOf,PN hm hn0 (by rw[Yc];exact cW)];rw[g1];rfl,rfl⟩,zx,H2,JC K,fun h=>by cases h⟩
 rename_i rs hb;obtain⟨⟨hn0,cW⟩,rfl,rfl,rfl⟩:=hr;have uu:=A.L _ _ rq;simp only[Den,Env.get]at uu;obtain⟨e,he,hv⟩:=uu;obtain⟨uc,_⟩:=A.H.own.1 i _ hb;simp only[vV,Env.get]at uc;obtain⟨e',es,h1,h2,h3,h4⟩:=uc;rw[he]at h1;cases h1;have hm:Ub K rs es:=h4;have hdk:ρ k= .int kn n:=A.L _ _ hi;have eS:=A.L _ _ hx;have hlt:n.toNat<rs.length:=by omega
 have hrow:rs[n.toNat]?=some rs[n.toNat]:=z1 hlt;obtain⟨en,n1,n2,n3⟩:=hm.2 _ _ hrow
 obtain⟨k0,v0,hkv,jY⟩:∃k0 v0,rs[n.toNat]=[k0,v0]/\Den K k0 en.key:=by
  cases hq:rs[n.toNat]with
  |nil=>rw[hq]at n3;simp[vX]at n3
  |cons a l=>
   rw[hq]at n3;cases l with
   |nil=>simp[vX]at n3
   |cons b l=>
    cases l with
    |nil=>simp only[vX]at n3;obtain⟨_,_,e1,d1,_⟩:=n3;cases e1;exact⟨a,b,rfl,d1⟩
    |cons c l=>
     simp only[vX]at n3;obtain⟨_,_,e1,_,_,_,e2,_,_,_,e3,_⟩:=n3;cases e1;cases e2;cases e3
 rw[hkv]at hrow
 have hmod:(es.modify n.toNat fun e=>{e with key:=en.key,val:=ρ x})=es.modify n.toNat fun e=>{e with val:=ρ x}:=by
  apply xL;intro a;rw[y7,y7];split
  rename_i hja;subst hja;rw[n1];rfl
  rfl
 have hput:=DD hm hrow jY eS;rw[hmod]at hput;obtain⟨g1,g2⟩:=map_set A.H hb he h2 h3 hput;rw[xS]at g1;exact⟨undef,_,K, .inr ⟨by simp[execOp,Instr.entryStore,hv,Jk h3,hdk,asInt,asIntOf,PN hm hn0 cW];rw[g1];rfl,rfl⟩,zx,g2,JC K,fun h=>by cases h⟩
end
end Go.Sx
