/- Part 3: SxOpsN, SxOpsP, SxOpsQ. Conditions: as each part says. -/
import Derived.Test.YtlcbipfmodcedaaGreatDoorRfn1
set_option linter.unusedVariables false
set_option linter.unusedSimpArgs false
namespace Go.Sx
open Go
section
variable {M:Mx}{η:Env}{w:World}{O:Hps}{nx:Nat}{ρ:Operand->Value}{lk:Operand->Option SV}{v:SV}{O':Hps}{nx':Nat}{dst:Option Tmp}{ty:TypeId}{pos:String}{af:Array Edge}{gd:Option (Nat×Bool)}
theorem Zg8(H:HeapOK M η w O nx):HeapOK M (η++ [some ⟨w.heap.size,0,0⟩]) (X9 w (.map #[] 0)) ((nx, .mp [])::O) (nx+1):=by
 refine H.alloc (w':=X9 w (.map #[] 0)) rfl rfl rfl rfl 0 0 ?_;simp only[HpSat];exact⟨_, #[],ZL H.len _,rfl,Yy (w:=w) (w':=X9 w (.map #[] 0)) rfl,rfl,fun i row h=>by simp at h⟩
theorem Zc8(A:At M η w O nx ρ lk)(t:TypeId)(r:Option Operand)(hr:(opR M.C lk O nx (.makeMap t r)).ok O nx v O' nx'):Y3 M η w ⟨dst, .makeMap t r,ty,pos,af,gd⟩ ρ v O' nx':=by
 have fin:(Res.new (.mp (.loc nx)) (.mp [])).ok O nx v O' nx'->(Instr.makeMap t (r.map ρ)).run M.P w= .ok (.map (some w.heap.size)) (X9 w (.map #[] 0))->Y3 M η w ⟨dst, .makeMap t r,ty,pos,af,gd⟩ ρ v O' nx':=by
  rintro⟨rfl,rfl,rfl⟩ hrun;exact⟨_,_,_, .inl (by simp[execOp,hrun];rfl),List.prefix_append _ _,Zg8 A.H,by simp only[Den];exact⟨_,ZL A.H.len _,rfl⟩,fun _ h=>absurd h (by simp)⟩
 simp only[opR,Z9s]at hr;cases r with
 |none=>exact fin hr (by simp[Instr.makeMap,newObj];rfl)
 |some x=>
  simp only at hr;split at hr
  case h_2=>exact hr.elim
  rename_i kt et hs;split at hr
  case h_2=>exact hr.elim
  rename_i k n hx;obtain⟨d,hd,hm⟩:=A.T.und t (by rw[hs];simp);rw[hs]at hm;simp only[ShM]at hm;subst hm;have hxv:ρ x= .int k n:=A.L _ _ hx;exact fin hr (by simp[Instr.makeMap,newObj,Z3 hd,hxv,asInt];rfl)
theorem Z0l(A:At M η w O nx ρ lk){t:TypeId}{f:SV->Res}(hr:(Z6z M.C.T t f).ok O nx v O' nx'):∃z zv,(zeroValue t).run M.P w= .ok zv w/\Den η z zv/\(f z).ok O nx v O' nx':=by
 unfold Z6z at hr;split at hr
 ·exact hr.elim
 rename_i c cs hz;split at hr
 case h_2=>exact hr.elim
 rename_i z ho;have hsh:M.C.T.sh t≠ .other:=by intro h;simp[YH,h]at ho
 obtain⟨i,zv,h1,h2,h3⟩:=Z02 A.T hsh (by rw[hz];simp) (by rw[hz];exact ho) η;exact⟨z,zv,XW h1 h2 w,h3,hr⟩
theorem VS{z:SV}{zv:Value}{ok b:Bool}(h:Den η z zv):Den η (Z1w ok z b) (if ok=true then .tuple #[zv, .bool b]else zv):=by
 cases ok with
 |false=>exact h
 |true=>simp only[Z1w,Den,DenL];exact⟨[zv, .bool b],rfl,zv,_,rfl,h,_,[],rfl,rfl,rfl⟩
theorem Wc{rs:List (List DC)}{j:Nat}{k v d:DC}(h:rs[j]?=some [k,v]):rs.modify j (putD d)=setC rs j 1 d:=by
 unfold setC;apply List.ext_getElem?;intro i;rw[List.getElem?_modify,List.getElem?_modify];by_cases hi:j=i
 ·subst hi;rw[h];rfl
 ·simp[hi]
theorem Z5q(A:At M η w O nx ρ lk){kt et:TypeId}{ks:Bool×List CK}{key:SV}{ok:Bool}{b:Blk}{u:Value}{e:Ent}(hks:M.C.T.key kt=some ks)(hdk:Den η key u)(he:η.get b=some (some e))
 (hr:(Z8h M.C O nx ks et key ok b).ok O nx v O' nx'):∃es r η',w.heap[e.g]?=some (.map es es.size)/\(Instr.checkKey es.isEmpty 10000 kt u).run M.P w= .ok () w/\
   (do let(v,ok')<-match<-Instr.findKey kt u es.toList with
     |some (_,v)=>pure (v,true)
     |none=>pure (<-zeroValue et,false)
       pure (if ok=true then .tuple #[v, .bool ok']else v):Sem Value).run M.P w= .ok r w/\η<+:η'/\HeapOK M η' w O' nx'/\Den η' v r:=by
 unfold Z8h at hr;split at hr
 case h_2=>exact hr.elim
 rename_i i;split at hr
 case h_2=>exact hr.elim
 rename_i es rs hb;obtain⟨⟨hko,hro⟩,hr⟩:=hr;have hsat:=(A.H.own.1 i _ hb).1;have hsat':=hsat;simp only[HpSat]at hsat';obtain⟨⟨⟨e',ens,h1,h2,h3,h4,h5⟩,_⟩,_⟩:=hsat';rw[he]at h1;injection h1 with h1;injection h1 with h1;subst h1
 obtain⟨f,hf,hhit,hval⟩:=Vp A.T hks hko hdk (w:=w) hro (Z03 (es:=ens.toList) (i:=0) (by simpa using h4) fun j row hj=>by
  obtain⟨en,g1,g2,g3⟩:=h5 j row hj
  exact⟨en,by simpa using g1,by omega,g3⟩)
 have hck:=(A.T.key kt ks hks).1 w η ens.isEmpty key u hko hdk;rw[Wa]at hhit;cases hm:findD ks key 0 rs with
 |none=>
  rw[hm]at hr hhit;obtain⟨z,zv,hz,hdz,hr⟩:=Z0l A hr;have hhit:f=none:=hhit;subst hhit;obtain⟨rfl,rfl,rfl⟩:=hr;exact⟨ens,_,η,h3,hck,by simp[hf,hz],List.prefix_rfl,A.H,VS hdz⟩
 |some p=>
  obtain⟨j,d⟩:=p;rw[hm]at hr hhit;simp only[Option.map_some]at hhit;obtain⟨xv,rfl,hdx⟩:=hhit;obtain⟨en,hen,hxv⟩:=hval j xv rfl;obtain⟨k0,_,hrow,_⟩:=Z2e hm;rw[Nat.sub_zero]at hrow;simp only[Zha]at hr;cases d with
  |v s=>
   obtain⟨rfl,rfl,rfl⟩:=hr;exact⟨ens,_,η,h3,hck,by simp[hf],List.prefix_rfl,A.H,VS hdx⟩
  |kid es' rows=>
   obtain⟨rfl,rfl,rfl⟩:=hr;obtain⟨x,hH⟩:=A.H.take hb hrow (c:=1) rfl;rw[Wc hrow];have hsome:(lkp i O).isSome:=by rw[hb];rfl
   have hinx:i≠nx:=fun h=>by have:=A.H.lt hb;omega
   have hs2:=(hH.own.1 i (.deep true es (setC rs j 1 (.v (.sl (.loc nx) 0 es' rows.length none)))) (by rw[Z6,if_neg hinx,ZX i _ O i hsome,if_pos rfl])).1;obtain⟨e2,o2,v2,q1,q2,q3,q4,_⟩:=UM hs2 (r:=j) (c:=1) (row:=[k0, .v (.sl (.loc nx) 0 es' rows.length none)]) (by rw[Yj,if_pos rfl,hrow];rfl) rfl;have hget:(η++ [x]).get (.loc i)=some (some e):=Env.get_mono (List.prefix_append _ _) he;rw[hget]at q1;injection q1 with q1;injection q1 with q1;subst q1
   rw[h3]at q2;injection q2 with q2;subst q2
   have hen':ens[j]?=some en:=by simpa using hen
   simp only[ZF,hen',Option.map_some,Option.some.injEq]at q3;subst q3 hxv;exact⟨ens,_,_,h3,hck,by simp[hf],List.prefix_append _ _,hH,VS q4⟩
theorem Zeg(A:At M η w O nx ρ lk)(t:TypeId)(x i:Operand)(ok:Bool)(hr:(opR M.C lk O nx (.lookup t x i ok)).ok O nx v O' nx'):Y3 M η w ⟨dst, .lookup t x i ok,ty,pos,af,gd⟩ ρ v O' nx':=by
 simp only[opR,ZbQ]at hr;split at hr
 case h_2=>exact hr.elim
 rename_i kt et hs;obtain⟨d,hd,hm⟩:=A.T.und t (by rw[hs];simp);rw[hs]at hm;simp only[ShM]at hm;subst hm;split at hr
 case h_2=>exact hr.elim
 rename_i ks hks;split at hr
 case h_2=>exact hr.elim
 rename_i key hi;have hiD:=Z6D A.L hi;split at hr
 ·rename_i b hx;split at hr
  case h_2=>
   have hxv:=A.L _ _ hx;simp only[Den]at hxv;obtain⟨e,he,hv⟩:=hxv;obtain⟨es,r,η',g1,g2,g3,g4,g5,g6⟩:=Z5q A hks hiD he hr
   have hrun:(Instr.lookup t (ρ x) (ρ i) ok).run M.P w= .ok r w:=by
    rw[<-g3];simp[Instr.lookup,Z3 hd,hv,JG g1,g2]
    rfl
   exact⟨r,w,η', .inl (by simp[execOp,hrun]),g4,g5,g6,fun _ _=>rfl⟩
  rename_i rs hb;obtain⟨⟨hko,hro⟩,hr⟩:=hr;have hxv:=A.L _ _ hx;simp only[Den]at hxv;obtain⟨e,he,hv⟩:=hxv;have hsat:=A.H.look hb;simp only[HpSat]at hsat;obtain⟨e',es,h1,h2,h3,h4,h5⟩:=hsat;rw[he]at h1;cases h1
  obtain⟨f,hf,hhit⟩:=U6 A.T hks hko hiD (w:=w) hro (Z03 (es:=es.toList) (i:=0) (by simpa using h4) fun j row hj=>by
   obtain⟨en,g1,g2,g3⟩:=h5 j row hj
   exact⟨en,by simpa using g1,by omega,g3⟩)
  have hck:=(A.T.key kt ks hks).1 w η es.isEmpty key (ρ i) hko hiD;cases hm:Xz ks key 0 rs with
  |some p=>
   obtain⟨j,u⟩:=p;rw[hm]at hr hhit;obtain⟨xv,rfl,hdx⟩:=hhit;exact A.val hr ⟨_, .inl (by simp[execOp,Instr.lookup,Z3 hd,hv,JG h3,hck,hf]),VS hdx⟩
  |none=>
   rw[hm]at hr hhit;obtain⟨z,zv,hz,hdz,hr⟩:=Z0l A hr;have hhit:f=none:=hhit;subst hhit;exact A.val hr ⟨_, .inl (by simp[execOp,Instr.lookup,Z3 hd,hv,JG h3,hck,hf,hz]),VS hdz⟩
 ·rename_i hx;obtain⟨hko,hr⟩:=hr;have hv:ρ x= .map none:=(A.L _ _ hx).1;have hck:=(A.T.key kt ks hks).1 w η true key (ρ i) hko hiD;obtain⟨f,hf,hhit⟩:=U6 A.T hks hko hiD (w:=w) (rs:=[]) (es:=[]) (fun r h=>by simp at h) trivial;have hhit:f=none:=hhit;subst hhit;obtain⟨z,zv,hz,hdz,hr⟩:=Z0l A hr;exact A.val hr ⟨_, .inl (by simp[execOp,Instr.lookup,Z3 hd,hv,hck,hf,hz]),VS hdz⟩
 ·exact hr.elim
theorem Z9A{rs:List (List DC)}{r c a:Nat}{d:DC}(h:Z0T rs r c=some (a,d)):∃row,rs[r]?=some row/\row[c]?=some d:=by
 unfold Z0T at h;split at h
 ·rename_i row hr;split at h
  ·rename_i d' hc;injection h with h;injection h with _ h;subst h;exact⟨row,hr,hc⟩
  ·cases h
 ·cases h
theorem Z6M(hT:TabOK M.P M.C.T){own:Bool}{i es:Nat}{rs:List (List DC)}(d:HpSat η w own (.loc i) (.deep false es rs)){r c:Nat}{row:List DC}{sv v:SV}{e:Ent}{t:TypeId}
 (hr:rs[r]?=some row) (hc:row[c]?=some (.v sv)) (he:η.get (.loc i)=some (some e)) (h1:M.C.T.size t=1) (ho:YH M.C.T t [sv]=some v):
 ∃u,(loadVar t ⟨e.g,e.base+(r*es+c),none⟩).run M.P w= .ok u w/\Den η v u:=by
 simp only[HpSat]at d;obtain⟨d1,_⟩:=d;have hfr:(Zs rs)[r]?=some (row.map ZN):=by rw[Y6,hr];rfl
 rcases d1 with⟨h,_⟩|⟨e',arr,T,fz,h2,h3,_,h4⟩
 ·rw[he]at h;cases h
 rw[he]at h2;injection h2 with h2;injection h2 with h2;subst h2
 obtain⟨h5,h6⟩:=h4 r _ hfr
 have hp:WW M.C.T t c (row.map ZN)= .val v:=by
  unfold WW;have hlt:=(List.getElem?_eq_some_iff.1 hc).1
  have hd:(row.map ZN).drop c=sv::(row.map ZN).drop (c+1):=by
   rw[List.drop_eq_getElem_cons (by simpa using hlt)];congr 1;have:=(List.getElem?_eq_some_iff.1 hc).2;rw[List.getElem_map,this];rfl
  rw[hd,h1];simp only[Z0S,ho]
 obtain⟨_,_,u,hu,hd⟩:=Z2a (v:=v) (O:=([]:Hps)) (nx:=0) (O':=[]) (nx':=0) hT h3 h6 (by rw[hp];exact⟨rfl,rfl,rfl⟩);exact⟨u,by rw[<-Nat.add_assoc];exact hu,hd⟩
theorem Zhr(A:At M η w O nx ρ lk)(t:TypeId)(x:Operand)(hr:(opR M.C lk O nx (.load t x)).ok O nx v O' nx'):Y3 M η w ⟨dst, .load t x,ty,pos,af,gd⟩ ρ v O' nx':=by
 simp only[opR,Zh6]at hr;split at hr
 case h_2=>exact hr.elim
 rename_i p hx
 have plain:∀{hr:(ZaA M.C.T (Yp M.C O) t p).ok O nx v O' nx'},Y3 M η w ⟨dst, .load t x,ty,pos,af,gd⟩ ρ v O' nx':=fun{hr}=>by
  obtain⟨e1,e2,a,u,h1,h2,h3⟩:=Z2O A.T A.H (A.L _ _ hx) hr;exact A.same (.inl (by simp[execOp,h1,Instr.loadAt,Instr.sureAddr,h2])) h3 e1 e2
 split at hr
 ·rename_i i r es c;split at hr
  ·rename_i es' rs hb;split at hr
   ·rename_i hes hsz;have hes:=Zn hes;have hsz:=Zn hsz;subst hes;have hxv:=A.L _ _ hx;simp only[Den]at hxv;obtain⟨e,he,hv⟩:=hxv;cases hcd:Z0T rs r c with
    |none=>rw[hcd]at hr;exact hr.elim
    |some p=>
     obtain⟨a,d⟩:=p;rw[hcd]at hr;have hr:(Ze5 M.C nx i es rs r c t d).ok O nx v O' nx':=hr;obtain⟨row,hrow,hcell⟩:=Z9A hcd;have hsat:=(A.H.own.1 i _ hb).1;cases d with
     |v sv=>
      simp only[Ze5]at hr;split at hr
      ·rename_i v0 ho;obtain⟨u,hu,hd⟩:=Z6M A.T hsat hrow hcell he hsz ho;exact A.val hr ⟨u, .inl (by simp[execOp,hv,Instr.loadAt,Instr.sureAddr,hu]),hd⟩
      ·exact hr.elim
     |kid es' rows=>
      simp only[Ze5]at hr;split at hr
      ·rename_i q hs;obtain⟨rfl,rfl,rfl⟩:=hr;obtain⟨x,hH⟩:=A.H.take hb hrow hcell;have hsome:(lkp i O).isSome:=by rw[hb];rfl
       have hinx:i≠nx:=fun h=>by have:=A.H.lt hb;omega
       have hs2:=(hH.own.1 i (.deep false es (setC rs r c (.v (.sl (.loc nx) 0 es' rows.length none)))) (by rw[Z6,if_neg hinx,ZX i _ O i hsome,if_pos rfl])).1;have hget:(η++ [x]).get (.loc i)=some (some e):=Env.get_mono (List.prefix_append _ _) he;obtain⟨u,hu,hd⟩:=Z6M A.T hs2 (r:=r) (c:=c) (row:=row.set c (.v (.sl (.loc nx) 0 es' rows.length none))) (by rw[Yj,if_pos rfl,hrow];rfl) (by rw[List.getElem?_set_self (List.getElem?_eq_some_iff.1 hcell).1]) hget hsz (v:= .sl (.loc nx) 0 es' rows.length none) (by simp only[YH,hs]);exact⟨u,w,_, .inl (by simp[execOp,hv,Instr.loadAt,Instr.sureAddr,hu]),List.prefix_append _ _,hH,hd,fun _ _=>rfl⟩
      ·exact hr.elim
   ·exact hr.elim
  ·exact plain (hr:=hr)
 ·exact plain (hr:=hr)
end
end Go.Sx
namespace Go.Sx
open Go
theorem Z5r{ks:Bool×List CK}{key:SV}:∀{rs:List (List SV)} {i j:Nat} {v:SV},Xz ks key i rs=some (j,v)->∃k,i<=j/\rs[j-i]?=some [k,v]/\WY ks key k=true
 | [],i,j,v,h=>by simp[Xz]at h
 |r::rs,i,j,v,h=>by
  unfold Xz at h;split at h
  ·rename_i k u;split at h
   ·rename_i hk;simp only[Option.some.injEq,Prod.mk.injEq]at h;obtain⟨rfl,rfl⟩:=h;exact⟨k,Nat.le_refl _,by simp,hk⟩
   ·obtain⟨k',h1,h2,h3⟩:=Z5r h;refine⟨k',by omega,?_,h3⟩;have:j-i=(j-(i+1))+1:=by omega
    rw[this];simpa using h2
  ·cases h
section
variable {M:Mx}{η:Env}{w:World}{O:Hps}{nx:Nat}{ρ:Operand->Value}{lk:Operand->Option SV}{v:SV}{O':Hps}{nx':Nat}{dst:Option Tmp}{ty:TypeId}{pos:String}{af:Array Edge}{gd:Option (Nat×Bool)}
def Xa(w:World)(g:Nat)(es:Array MapEntry):World:={w with heap:=w.heap.setIfInBounds g (.map es es.size)}
def UC(η:Env)(rs:List (List SV))(es:Array MapEntry):Prop:=es.size=rs.length/\∀j row,rs[j]?=some row->∃e:MapEntry,es[j]?=some e/\e.born=j/\DenL η row [e.key,e.val]
theorem map_set(H:HeapOK M η w O nx){i:Nat}{rs rs':List (List SV)}{en:Ent}{es es':Array MapEntry}(hh:lkp i O=some (.mp rs))(hb:η[i]?=some (some en))(h0:en.base=0)(h3:w.heap[en.g]?=some (.map es es.size))(hm:UC η rs' es'):
 (setObj en.g (.map es' es'.size)).run M.P w= .ok () (Xa w en.g es')/\HeapOK M η (Xa w en.g es') (setK i (.mp rs') O) nx:=by
 have hlt:en.g<w.heap.size:=(Array.getElem?_eq_some_iff.1 h3).1;refine⟨by simp[setObj,Sem.run,h3,Xa],?_⟩;refine H.upd hh hb (fun k hk=>?_) (by simp[Xa]) rfl rfl rfl ?_
 ·simp[Xa,Array.getElem?_setIfInBounds,Ne.symm hk]
 ·simp only[HpSat,Env.get];exact⟨en,es',hb,h0,by simp[Xa,hlt],hm.1,hm.2⟩
theorem Z2X{rs:List (List SV)}{es:Array MapEntry}(hm:UC η rs es){j:Nat}{k v0 v:SV}{u x:Value}(hj:rs[j]?=some [k,v0])(hk:Den η k u)(hv:Den η v x):UC η (rs.modify j (putV v)) (es.modify j fun e=>{e with key:=u,val:=x}):=by
 refine⟨by rw[Array.size_modify,List.length_modify];exact hm.1,fun a row ha=>?_⟩;rw[List.getElem?_modify]at ha;cases hr:rs[a]? with
 |none=>rw[hr]at ha;cases ha
 |some r0=>
  rw[hr]at ha;obtain⟨e,e1,e2,e3⟩:=hm.2 a r0 hr;rw[Array.getElem?_modify,e1];by_cases hja:j=a
  ·subst hja;rw[hj]at hr;cases hr;simp only[if_true,Option.map_eq_map,Option.map_some,Option.some.injEq,putV]at ha;subst ha;refine⟨{e with key:=u,val:=x},by simp,e2,?_⟩;simp only[DenL];exact⟨_,_,rfl,hk,_,_,rfl,hv,rfl⟩
  ·simp only[if_neg hja,Option.map_eq_map,Option.map_some,Option.some.injEq,id]at ha;subst ha;exact⟨e,by simp[hja],e2,e3⟩
theorem Z0Z{rs:List (List SV)}{es:Array MapEntry}(hm:UC η rs es){k v:SV}{u x:Value}(hk:Den η k u)(hv:Den η v x):UC η (rs++ [[k,v]]) (es.push ⟨u,x,es.size⟩):=by
 refine⟨by simp[hm.1],fun a row ha=>?_⟩;rw[Array.getElem?_push];by_cases hl:a<rs.length
 ·rw[List.getElem?_append_left hl]at ha;obtain⟨e,e1,e2,e3⟩:=hm.2 a row ha;exact⟨e,by rw[if_neg (by rw[hm.1];omega)];exact e1,e2,e3⟩
 ·rw[List.getElem?_append_right (by omega)]at ha
  have:a-rs.length=0:=by
   cases hq:a-rs.length with
   |zero=>rfl
   |succ n=>rw[hq]at ha;simp at ha
  rw[this]at ha;simp only[List.getElem?_cons_zero,Option.some.injEq]at ha;subst ha;have:a=es.size:=by rw[hm.1];omega
  subst this;refine⟨⟨u,x,es.size⟩,by simp,rfl,?_⟩;simp only[DenL];exact⟨_,_,rfl,hk,_,_,rfl,hv,rfl⟩
theorem Z2f{u:Value}(h:Instr.sameBits 10000 u u=true)(w:World):(Instr.keyThatStays u u).run M.P w= .ok u w:=by simp[Instr.keyThatStays,h]
theorem setC_setC{rs:List (List DC)}{r c:Nat}{d d':DC}:setC (setC rs r c d) r c d'=setC rs r c d':=by
 apply List.ext_getElem?;intro a;rw[Yj,Yj,Yj];by_cases ha:a=r
 ·subst ha;cases rs[a]?<;>simp
 ·simp[ha]
theorem Zc9{rs:List (List DC)}{k d d':DC}:rs++ [[k,d']]=setC (rs++ [[k,d]]) rs.length 1 d':=by
 apply List.ext_getElem?;intro a;rw[Yj];by_cases ha:a=rs.length
 ·subst ha;simp
 ·rw[if_neg ha];by_cases hlt':a<rs.length
  ·rw[List.getElem?_append_left hlt',List.getElem?_append_left hlt']
  ·rw[List.getElem?_eq_none (by simp;omega),List.getElem?_eq_none (by simp;omega)]
theorem Z5s(H:HeapOK M η w O nx){i es:Nat}{rs rsv:List (List DC)}{e:Ent}{ens ens':Array MapEntry}(hb:lkp i O=some (.deep true es rs))(he:η[i]?=some (some e))(h3:w.heap[e.g]?=some (.map ens ens.size))(hm':UC η (Zs rsv) ens')
 (hkid:∀a b y,Yd rsv a b=some y->Yd rs a b=some y/\ZF (.map ens' ens'.size) es a b=ZF (.map ens ens.size) es a b):HeapOK M η (Xa w e.g ens') (setK i (.deep true es rsv) O) nx:=by
 have hsat:=(H.own.1 i _ hb).1;obtain⟨_,hD,hes⟩:=hsat.deep_ent;have h2:=(hD e he).1;have hK:=(hD e he).2 _ h3;have hlt:e.g<w.heap.size:=(Array.getElem?_eq_some_iff.1 h3).1;have hother:∀k,k≠e.g->(Xa w e.g ens').heap[k]?=w.heap[k]?:=fun k hk=>by simp[Xa,Array.getElem?_setIfInBounds,Ne.symm hk]
 have hself:(Xa w e.g ens').heap[e.g]?=some (.map ens' ens'.size):=by simp[Xa,hlt]
 refine H.updF hb he hother (by simp[Xa]) rfl rfl rfl ?_ (Nat.le_refl _) fun m fm=>?_
 ·refine HpSat.deep_of (⟨e,ens',show η.get (.loc i)=some (some e)from he,h2,hself,hm'.1,hm'.2⟩:MpSat η (Xa w e.g ens') (.loc i) (Zs rsv)) hes fun e' h1=>?_;rw[show η.get (.loc i)=some (some e)from he]at h1;injection h1 with h1;injection h1 with h1;subst h1
  refine⟨h2,fun o' ho=>?_⟩;rw[hself]at ho;injection ho with ho;subst ho
  refine⟨fun a b es'' rows'' hk=>?_,fun a b a' b' y y' z z' k h1 h2 h3 h4 h5 h6=>?_⟩
  ·obtain⟨q1,q2⟩:=hkid a b _ hk;obtain⟨z,q3,q4,q5⟩:=hK.sat a b _ _ q1;refine⟨z,q2.trans q3,q4.keep fun k hz=>hother k fun e=>?_,q5⟩;subst e;exact q5 hz
  ·obtain⟨q1,q2⟩:=hkid a b _ h1;obtain⟨q1',q2'⟩:=hkid a' b' _ h2;exact hK.ne a b a' b' y y' z z' k q1 q1' (q2▸h3) (q2'▸h4) h5 h6
 ·rcases fm.of (e:=e) (show η.get (.loc i)=some (some e)from he)with rfl|fm
  ·exact feet.own he
  ·simp only[kid]at fm;obtain⟨o',a,b,y,z,f1,f2,f3,f4⟩:=fm;rw[hself]at f1;injection f1 with f1;subst f1
   obtain⟨q1,q2⟩:=hkid a b _ f2;exact⟨e,he, .inr (by simp only[kid];exact⟨_,a,b,y,z,h3,q1,q2▸f3,f4⟩)⟩
theorem Zca{rs:List (List DC)}{es j:Nat}{k0 d0:DC}{sv:SV}{ens:Array MapEntry}{en:MapEntry}{x:Value}(hm:UC η (Zs rs) ens)(k2:rs[j]?=some [k0,d0])(n1:ens[j]?=some en)(hdk0:Den η (ZN k0) en.key)(hdx:Den η sv x):
 UC η (Zs (setC rs j 1 (.v sv))) (ens.modify j fun e=>{e with key:=en.key,val:=x})/\
 ∀a b y,Yd (setC rs j 1 (.v sv)) a b=some y->Yd rs a b=some y/\ZF (.map (ens.modify j fun e=>{e with key:=en.key,val:=x}) (ens.modify j fun e=>{e with key:=en.key,val:=x}).size) es a b=ZF (.map ens ens.size) es a b:=by
 have hfr:(Zs rs)[j]?=some [ZN k0,ZN d0]:=by rw[Y6,k2];rfl
 refine⟨?_,fun a b y hk=>?_⟩
 ·have:Zs (setC rs j 1 (.v sv))=(Zs rs).modify j (putV sv):=by
   apply List.ext_getElem?;intro a;rw[Wb,List.getElem?_modify];by_cases ha:a=j
   ·subst ha;rw[if_pos rfl,hfr];simp[putV,ZN]
   ·have hja:¬j=a:=fun h=>ha h.symm;rw[if_neg ha];simp[hja]
  rw[this];exact Z2X hm hfr hdk0 hdx
 ·obtain⟨q1,q2⟩:=JT hk;refine⟨q1,?_⟩;simp only[ZF];rw[Array.getElem?_modify];by_cases ha:j=a
  ·subst ha;rw[if_pos rfl,n1];obtain⟨y1,y2⟩:=y;obtain⟨row,r1,r2⟩:=kidAt_some.1 q1;rw[k2]at r1;injection r1 with r1;subst r1
   match b,r2,q2 with
   |0,_,_=>rfl
   |1,_,q2=>exact(q2 ⟨rfl,rfl⟩).elim
   |b+2,r2,_=>simp at r2
  ·rw[if_neg ha]
theorem Zcb{rs:List (List DC)}{es:Nat}{key sv:SV}{ens:Array MapEntry}{u x:Value}(hm:UC η (Zs rs) ens)(hdk:Den η key u)(hdx:Den η sv x):
 UC η (Zs (rs++ [[.v key, .v sv]])) (ens.push ⟨u,x,ens.size⟩)/\
 ∀a b y,Yd (rs++ [[.v key, .v sv]]) a b=some y->Yd rs a b=some y/\ZF (.map (ens.push ⟨u,x,ens.size⟩) (ens.push ⟨u,x,ens.size⟩).size) es a b=ZF (.map ens ens.size) es a b:=by
 refine⟨?_,fun a b y hk=>?_⟩
 ·have:Zs (rs++ [[.v key, .v sv]])=Zs rs++ [[key,sv]]:=by simp[Zs,ZN]
  rw[this];exact Z0Z hm hdk hdx
 ·obtain⟨y1,y2⟩:=y;obtain⟨row,k1,k2⟩:=kidAt_some.1 hk;by_cases hlt':a<rs.length
  ·rw[List.getElem?_append_left hlt']at k1;refine⟨kidAt_some.2 ⟨row,k1,k2⟩,?_⟩;simp only[ZF];rw[Array.getElem?_push,if_neg (by have:=hm.1;rw[Y7]at this;omega)]
  ·rw[List.getElem?_append_right (by omega)]at k1;cases hz:a-rs.length with
   |succ n=>rw[hz]at k1;simp at k1
   |zero=>
    rw[hz]at k1;simp at k1;subst k1
    match b,k2 with
    |0,k2=>cases k2
    |1,k2=>cases k2
    |b+2,k2=>simp at k2
theorem Z1Z(A:At M η w O nx ρ lk){kt et:TypeId}{ks:Bool×List CK}{key sv:SV}{i es:Nat}{rs:List (List DC)}{u x:Value}{e:Ent}(hks:M.C.T.key kt=some ks)(hdk:Den η key u)(hdx:Den η sv x)(he:η[i]?=some (some e))
 (hb:lkp i O=some (.deep true es rs)) (hr:(Res.need (JF ks key=true/\JN ks (Zs rs)) (WZ M.C.T et O i (fun d=> .deep true es (setD ks key d rs)) sv)).ok O nx v O' nx'):
 ∃ens w',w.heap[e.g]?=some (.map ens ens.size)/\(Instr.checkKey false 10000 kt u).run M.P w= .ok () w/\
  (do match<-Instr.findKey kt u ens.toList with
    |some (k,_)=>do
     let k'<-Instr.keyThatStays (((ens[k]?).map (·.key)).getD u) u
     setObj e.g (.map (ens.modify k fun e'=>{e' with key:=k',val:=x}) ens.size)
    |none=>setObj e.g (.map (ens.push {key:=u,val:=x,born:=ens.size}) (ens.size+1)):Sem Unit).run M.P w= .ok () w'/\HeapOK M η w' O' nx'/\v= .tup []:=by
 obtain⟨⟨hko,hro⟩,hr⟩:=hr;have hsat:=(A.H.own.1 i _ hb).1;obtain⟨_,hD,hes⟩:=hsat.deep_ent;have hsat':=hsat;simp only[HpSat,Env.get]at hsat';obtain⟨⟨⟨e',ens,h1,h2,h3,h4,h5⟩,_⟩,_⟩:=hsat';rw[show η.get (.loc i)=some (some e)from he]at h1;injection h1 with h1;injection h1 with h1;subst h1
 have hm:UC η (Zs rs) ens:=⟨h4,h5⟩;have hK:=(hD e he).2 _ h3;have hlt:e.g<w.heap.size:=(Array.getElem?_eq_some_iff.1 h3).1;have hsome:(lkp i O).isSome:=by rw[hb];rfl
 obtain⟨f,hf,hhit,hval⟩:=Vp A.T hks hko hdk (w:=w) hro (Z03 (es:=ens.toList) (i:=0) (by simpa using hm.1) fun j row hj=>by
  obtain⟨en,g1,g2,g3⟩:=hm.2 j row hj
  exact⟨en,by simpa using g1,by omega,g3⟩)
 have hck:=(A.T.key kt ks hks).1 w η false key u hko hdk;rw[Wa]at hhit
 have fin:∀{ens':Array MapEntry} {r:Nat} {k0:DC},(setD ks key (.v sv) rs)[r]?=some [k0, .v sv]->(∀d,setD ks key d rs=setC (setD ks key (.v sv) rs) r 1 d)->UC η (Zs (setD ks key (.v sv) rs)) ens'->
  (∀a b y,Yd (setD ks key (.v sv) rs) a b=some y->Yd rs a b=some y/\ZF (.map ens' ens'.size) es a b=ZF (.map ens ens.size) es a b)->
  (setObj e.g (.map ens' ens'.size)).run M.P w= .ok () (Xa w e.g ens')/\HeapOK M η (Xa w e.g ens') O' nx'/\v= .tup []:=by
  intro ens' r k0 hrow hset hm' hkid;obtain⟨H2,rfl,rfl⟩:=Z2T hr (mp:=true) (es:=es) (rsv:=setD ks key (.v sv) rs) (r:=r) (c:=1) (fun d=>by rw[hset d]) rfl hrow rfl hsome (Z5s A.H hb he h3 hm' hkid);exact⟨by simp[setObj,Sem.run,h3,Xa],H2,rfl⟩
 cases hq:findD ks key 0 rs with
 |none=>
  rw[hq]at hhit;have hhit:f=none:=hhit;subst hhit;have hs:∀d,setD ks key d rs=rs++ [[.v key,d]]:=fun d=>by unfold setD;rw[hq]
  have hp:=Zcb (es:=es) hm hdk hdx;rw[<-hs]at hp
  obtain⟨g1,g2,g3⟩:=fin (ens':=ens.push ⟨u,x,ens.size⟩) (r:=rs.length) (k0:= .v key) (by rw[hs];simp) (fun d=>by
   rw[hs,hs]
   exact Zc9) hp.1 hp.2
  rw[Array.size_push]at g1;exact⟨ens,_,h3,hck,by simp[hf];rw[g1],g2,g3⟩
 |some p=>
  obtain⟨j,d0⟩:=p;rw[hq]at hhit;obtain⟨xv,rfl,_⟩:=hhit;obtain⟨k0,_,k2,k3⟩:=Z2e hq;rw[Nat.sub_zero]at k2;have hfr:(Zs rs)[j]?=some [ZN k0,ZN d0]:=by rw[Y6,k2];rfl
  obtain⟨en,n1,n2,n3⟩:=hm.2 j _ hfr;simp only[DenL]at n3;obtain⟨_,_,e1,hdk0,_,_,e2,_,e3⟩:=n3;cases e1;cases e2
  obtain⟨heq,hsb⟩:=Z2d k3 hdk hdk0;have hs:∀d,setD ks key d rs=setC rs j 1 d:=fun d=>by unfold setD;rw[hq];exact Wc k2
  have hjl:j<rs.length:=(List.getElem?_eq_some_iff.1 k2).1;have hp:=Zca (es:=es) hm k2 n1 hdk0 hdx;rw[<-hs]at hp
  obtain⟨g1,g2,g3⟩:=fin (ens':=ens.modify j fun e=>{e with key:=en.key,val:=x}) (r:=j) (k0:=k0) (by rw[hs,Yj,if_pos rfl,k2];rfl) (fun d=>by
   rw[hs,hs]
   exact setC_setC.symm) hp.1 hp.2
  rw[Array.size_modify]at g1;rw[<-heq]at g1;exact⟨ens,_,h3,hck,by simp[hf,n1,<-heq,Z2f hsb];rw[g1],heq▸g2,g3⟩
theorem Z2Y(A:At M η w O nx ρ lk)(t:TypeId)(m k x:Operand)(hr:(opR M.C lk O nx (.mapUpdate t m k x)).ok O nx v O' nx'):Y3 M η w ⟨dst, .mapUpdate t m k x,ty,pos,af,gd⟩ ρ v O' nx':=by
 simp only[opR,Z0V]at hr;split at hr
 case h_2=>exact hr.elim
 rename_i kt et hs;obtain⟨d,hd,hm⟩:=A.T.und t (by rw[hs];simp);rw[hs]at hm;simp only[ShM]at hm;subst hm;split at hr
 case h_2=>exact hr.elim
 rename_i ks hks;split at hr
 case h_2=>exact hr.elim
 rename_i key hi;have hiD:=Z6D A.L hi;split at hr
 case h_2=>exact hr.elim
 rename_i sv hx;split at hr
 case h_2=>exact hr.elim
 rename_i i hmv;split at hr
 case h_3=>exact hr.elim
 case h_2=>
  rename_i es rs hb;have hxv:=A.L _ _ hmv;simp only[Den,Env.get]at hxv;obtain⟨e,he,hv⟩:=hxv;obtain⟨ens,w',g1,g2,g3,g4,rfl⟩:=Z1Z A hks hiD (A.L _ _ hx) he hb hr
  have hrun:(Instr.mapUpdate t (ρ m) (ρ k) (ρ x)).run M.P w= .ok () w':=by
   rw[<-g3];simp[Instr.mapUpdate,Z3 hd,hv,JG g1,g2]
   rfl
  exact⟨undef,w',η, .inr ⟨by simp[execOp,hrun],rfl⟩,List.prefix_rfl,g4,V3 η,fun h=>by cases h⟩
 rename_i rs hb;obtain⟨⟨hko,hro⟩,rfl,rfl,rfl⟩:=hr;have hxv:=A.L _ _ hmv;simp only[Den,Env.get]at hxv;obtain⟨e,he,hv⟩:=hxv;obtain⟨hsat,_⟩:=A.H.own.1 i _ hb;simp only[HpSat,Env.get]at hsat;obtain⟨e',es,h1,h2,h3,h4⟩:=hsat;rw[he]at h1;cases h1;have hm:UC η rs es:=h4;have hdk:=hiD;have hdx:=A.L _ _ hx
 obtain⟨f,hf,hhit⟩:=U6 A.T hks hko hdk (w:=w) hro (Z03 (es:=es.toList) (i:=0) (by simpa using hm.1) fun j row hj=>by
  obtain⟨en,g1,g2,g3⟩:=hm.2 j row hj
  exact⟨en,by simpa using g1,by omega,g3⟩)
 have hck:=(A.T.key kt ks hks).1 w η false key (ρ k) hko hdk;unfold setM;cases hq:Xz ks key 0 rs with
 |none=>
  rw[hq]at hhit;have hhit:f=none:=hhit;subst hhit;obtain⟨g1,g2⟩:=map_set A.H hb he h2 h3 (Z0Z hm hdk hdx);rw[Array.size_push]at g1;exact⟨undef,_,η, .inr ⟨by simp[execOp,Instr.mapUpdate,Z3 hd,hv,JG h3,hck,hf];rw[g1];rfl,rfl⟩,List.prefix_rfl,g2,V3 η,fun h=>by cases h⟩
 |some p=>
  obtain⟨j,u⟩:=p;rw[hq]at hhit;obtain⟨xv,rfl,_⟩:=hhit;obtain⟨k0,_,k2,k3⟩:=Z5r hq;rw[Nat.sub_zero]at k2;obtain⟨en,n1,n2,n3⟩:=hm.2 j _ k2;simp only[DenL]at n3;obtain⟨_,_,e1,hdk0,_,_,e2,_,e3⟩:=n3;cases e1;cases e2
  obtain⟨heq,hsb⟩:=Z2d k3 hdk hdk0;obtain⟨g1,g2⟩:=map_set A.H hb he h2 h3 (Z2X hm k2 (heq▸hdk0) hdx);rw[Array.size_modify]at g1;exact⟨undef,_,η, .inr ⟨by simp[execOp,Instr.mapUpdate,Z3 hd,hv,JG h3,hck,hf,n1,<-heq,Z2f hsb];rw[g1];rfl,rfl⟩,List.prefix_rfl,g2,V3 η,fun h=>by cases h⟩
theorem Zeh(A:At M η w O nx ρ lk)(t:TypeId)(m k x:Operand)(hr:(opR M.C lk O nx (.insert t m k x)).ok O nx v O' nx'):Y3 M η w ⟨dst, .insert t m k x,ty,pos,af,gd⟩ ρ v O' nx':=by
 obtain⟨u,w',η',h1,h2,h3,h4,_⟩:=Z2Y (dst:=dst) (ty:=ty) (pos:=pos) (af:=af) (gd:=gd) A t m k x hr;exact⟨u,w',η',h1,h2,h3,h4,fun h=>by cases h⟩
theorem Z2Z{w:World}{g:Nat}{es:Array MapEntry}(h:w.heap[g]?=some (.map es es.size)):Xa w g es=w:=by
 have hh:w.heap.setIfInBounds g (.map es es.size)=w.heap:=by
  apply Array.ext_getElem?;intro k;rw[Array.getElem?_setIfInBounds];split
  ·rename_i e;subst e;rw[h];simp[(Array.getElem?_eq_some_iff.1 h).1]
  ·rfl
 unfold Xa;rw[hh]
theorem Z30(A:At M η w O nx ρ lk){kt et:TypeId}{ks:Bool×List CK}{key:SV}{i es:Nat}{rs:List (List DC)}{u:Value}{e:Ent}(hks:M.C.T.key kt=some ks)(hdk:Den η key u)(he:η[i]?=some (some e))
 (hb:lkp i O=some (.deep true es rs)) (hr:(Res.need (JF ks key=true/\JN ks (Zs rs)) (.findD (findD ks key 0 rs) (fun j d=>ZbR nx i es rs j d)
   (Z6z M.C.T et fun z=> .upd i (.deep true es (rs++ [[.v key, .v z]])) (.tup [z, .int .i64 (rs.length:Int)])))).ok O nx v O' nx'):
 ∃ens w' r η',w.heap[e.g]?=some (.map ens ens.size)/\(Instr.checkKey false 10000 kt u).run M.P w= .ok () w/\
  (do match<-Instr.findKey kt u ens.toList with
    |some (k,x)=>do
     let k'<-Instr.keyThatStays (((ens[k]?).map (·.key)).getD u) u
     setObj e.g (.map (ens.modify k fun e'=>{e' with key:=k'}) ens.size)
     pure (.tuple #[x,goInt (((ens[k]?).map (·.born)).getD 0)])
    |none=>do
     let z<-zeroValue et
     setObj e.g (.map (ens.push {key:=u,val:=z,born:=ens.size}) (ens.size+1))
     pure (.tuple #[z,goInt ens.size]):Sem Value).run M.P w= .ok r w'/\η<+:η'/\HeapOK M η' w' O' nx'/\Den η' v r:=by
 obtain⟨⟨hko,hro⟩,hr⟩:=hr;have hsat:=(A.H.own.1 i _ hb).1;have hsat':=hsat;simp only[HpSat,Env.get]at hsat';obtain⟨⟨⟨e',ens,h1,h2,h3,h4,h5⟩,_⟩,_⟩:=hsat';rw[show η.get (.loc i)=some (some e)from he]at h1;injection h1 with h1;injection h1 with h1;subst h1
 have hm:UC η (Zs rs) ens:=⟨h4,h5⟩
 obtain⟨f,hf,hhit,hval⟩:=Vp A.T hks hko hdk (w:=w) hro (Z03 (es:=ens.toList) (i:=0) (by simpa using hm.1) fun j row hj=>by
  obtain⟨en,g1,g2,g3⟩:=hm.2 j row hj
  exact⟨en,by simpa using g1,by omega,g3⟩)
 have hck:=(A.T.key kt ks hks).1 w η false key u hko hdk;rw[Wa]at hhit;have hln:ens.size=rs.length:=by rw[h4,Y7]
 cases hq:findD ks key 0 rs with
 |none=>
  rw[hq]at hhit hr;have hhit:f=none:=hhit;subst hhit;obtain⟨z,zv,hz,hdz,hr⟩:=Z0l A hr;obtain⟨rfl,rfl,rfl⟩:=hr;have hp:=Zcb (es:=es) hm hdk hdz
  have g1:(setObj e.g (.map (ens.push ⟨u,zv,ens.size⟩) (ens.size+1))).run M.P w= .ok () (Xa w e.g (ens.push ⟨u,zv,ens.size⟩)):=by
   simp[setObj,Sem.run,h3,Xa]
  refine⟨ens,_, .tuple #[zv, .int .i64 (rs.length:Int)],η,h3,hck,by simp[hf,hz,goInt];rw[g1];simp[hln],List.prefix_rfl,Z5s A.H hb he h3 hp.1 hp.2,?_⟩;simp only[Den,DenL];exact⟨_,rfl,_,_,rfl,hdz,_,_,rfl,rfl,rfl⟩
 |some p=>
  obtain⟨j,d⟩:=p;rw[hq]at hhit hr;obtain⟨xv,rfl,hdx⟩:=hhit;obtain⟨en,hen,hxv⟩:=hval j xv rfl;obtain⟨k0,_,k2,k3⟩:=Z2e hq;rw[Nat.sub_zero]at k2;have hen':ens[j]?=some en:=by simpa using hen
  have hfr:(Zs rs)[j]?=some [ZN k0,ZN d]:=by rw[Y6,k2];rfl
  obtain⟨en',n1,n2,n3⟩:=hm.2 j _ hfr;rw[hen']at n1;injection n1 with n1;subst n1
  simp only[DenL]at n3;obtain⟨_,_,e1,hdk0,_,_,e2,hdv,e3⟩:=n3;cases e1;cases e2
  obtain⟨heq,hsb⟩:=Z2d k3 hdk hdk0
  have hes:(ens.modify j fun e=>{e with key:=u})=ens:=by
   apply Array.ext_getElem?;intro a;rw[Array.getElem?_modify];split
   ·rename_i hja;subst hja;rw[hen',heq];rfl
   ·rfl
  have g1:(setObj e.g (.map ens ens.size)).run M.P w= .ok () w:=by
   have:(setObj e.g (.map ens ens.size)).run M.P w= .ok () (Xa w e.g ens):=by simp[setObj,Sem.run,h3,Xa]
   rwa [Z2Z h3]at this
  have hrun:(do match<-Instr.findKey kt u ens.toList with
   |some (k,x)=>do
    let k'<-Instr.keyThatStays (((ens[k]?).map (·.key)).getD u) u
    setObj e.g (.map (ens.modify k fun e'=>{e' with key:=k'}) ens.size)
    pure (.tuple #[x,goInt (((ens[k]?).map (·.born)).getD 0)])
   |none=>do
    let z<-zeroValue et
    setObj e.g (.map (ens.push {key:=u,val:=z,born:=ens.size}) (ens.size+1))
    pure (.tuple #[z,goInt ens.size]):Sem Value).run M.P w= .ok (.tuple #[xv, .int .i64 (j:Int)]) w:=by
   simp[hf,hen',<-heq,Z2f hsb,hes,g1,goInt,n2]
  simp only[ZbR]at hr;cases d with
  |v s=>
   obtain⟨rfl,rfl,rfl⟩:=hr;refine⟨ens,w,_,η,h3,hck,hrun,List.prefix_rfl,A.H,?_⟩;simp only[Den,DenL];exact⟨_,rfl,_,_,rfl,hdx,_,_,rfl,rfl,rfl⟩
  |kid es' rows=>
   obtain⟨rfl,rfl,rfl⟩:=hr;obtain⟨x,hH⟩:=A.H.take hb k2 (c:=1) rfl;rw[Wc k2];have hsome:(lkp i O).isSome:=by rw[hb];rfl
   have hinx:i≠nx:=fun h=>by have:=A.H.lt hb;omega
   have hs2:=(hH.own.1 i (.deep true es (setC rs j 1 (.v (.sl (.loc nx) 0 es' rows.length none)))) (by rw[Z6,if_neg hinx,ZX i _ O i hsome,if_pos rfl])).1;obtain⟨e2,o2,v2,q1,q2,q3,q4,_⟩:=UM hs2 (r:=j) (c:=1) (row:=[k0, .v (.sl (.loc nx) 0 es' rows.length none)]) (by rw[Yj,if_pos rfl,k2];rfl) rfl;have hget:(η++ [x]).get (.loc i)=some (some e):=Env.get_mono (List.prefix_append _ _) he;rw[hget]at q1;injection q1 with q1;injection q1 with q1;subst q1
   rw[h3]at q2;injection q2 with q2;subst q2
   simp only[ZF,hen',Option.map_some,Option.some.injEq]at q3;subst q3 hxv;refine⟨ens,w,_,_,h3,hck,hrun,List.prefix_append _ _,hH,?_⟩;rw[Den];simp only[DenL];exact⟨_,rfl,_,_,rfl,q4,_,_,rfl,rfl,rfl⟩
theorem ZaJ(A:At M η w O nx ρ lk)(t:TypeId)(m k:Operand)(hr:(opR M.C lk O nx (.mapEntry t m k)).ok O nx v O' nx'):Y3 M η w ⟨dst, .mapEntry t m k,ty,pos,af,gd⟩ ρ v O' nx':=by
 simp only[opR,Z6A]at hr;split at hr
 case h_2=>exact hr.elim
 rename_i kt et hs;obtain⟨d,hd,hm⟩:=A.T.und t (by rw[hs];simp);rw[hs]at hm;simp only[ShM]at hm;subst hm;split at hr
 case h_2=>exact hr.elim
 rename_i ks hks;split at hr
 case h_2=>exact hr.elim
 rename_i key hi;split at hr
 case h_2=>exact hr.elim
 rename_i i hmv;split at hr
 case h_3=>exact hr.elim
 case h_2=>
  rename_i es rs hb;have hxv:=A.L _ _ hmv;simp only[Den,Env.get]at hxv;obtain⟨e,he,hv⟩:=hxv;obtain⟨ens,w',r,η',g1,g2,g3,g4,g5,g6⟩:=Z30 A hks (A.L _ _ hi) he hb hr
  have hrun:(Instr.mapEntry t (ρ m) (ρ k)).run M.P w= .ok r w':=by
   rw[<-g3];simp[Instr.mapEntry,Z3 hd,hv,JG g1,g2]
   rfl
  exact⟨r,w',η', .inl (by simp[execOp,hrun]),g4,g5,g6,fun h=>by cases h⟩
 rename_i rs hb;obtain⟨⟨hko,hro⟩,hr⟩:=hr;have hxv:=A.L _ _ hmv;simp only[Den,Env.get]at hxv;obtain⟨e,he,hv⟩:=hxv;obtain⟨hsat,_⟩:=A.H.own.1 i _ hb;simp only[HpSat,Env.get]at hsat;obtain⟨e',es,h1,h2,h3,h4⟩:=hsat;rw[he]at h1;cases h1;have hm:UC η rs es:=h4;have hdk:=A.L _ _ hi
 obtain⟨f,hf,hhit⟩:=U6 A.T hks hko hdk (w:=w) hro (Z03 (es:=es.toList) (i:=0) (by simpa using hm.1) fun j row hj=>by
  obtain⟨en,g1,g2,g3⟩:=hm.2 j row hj
  exact⟨en,by simpa using g1,by omega,g3⟩)
 have hck:=(A.T.key kt ks hks).1 w η false key (ρ k) hko hdk;cases hq:Xz ks key 0 rs with
 |none=>
  rw[hq]at hhit hr;have hhit:f=none:=hhit;subst hhit;obtain⟨z,zv,hz,hdz,hr⟩:=Z0l A hr;obtain⟨rfl,rfl,rfl⟩:=hr;obtain⟨g1,g2⟩:=map_set A.H hb he h2 h3 (Z0Z hm hdk hdz);rw[Array.size_push]at g1;refine⟨.tuple #[zv, .int .i64 (rs.length:Int)],_,η, .inl (by simp[execOp,Instr.mapEntry,Z3 hd,hv,JG h3,hck,hf,hz];rw[g1];simp[goInt,hm.1]),List.prefix_rfl,g2,?_,fun h=>by cases h⟩;simp only[Den,DenL];exact⟨_,rfl,_,_,rfl,hdz,_,_,rfl,rfl,rfl⟩
 |some p=>
  obtain⟨j,u⟩:=p;rw[hq]at hhit hr;obtain⟨xv,rfl,hdx⟩:=hhit;obtain⟨rfl,rfl,rfl⟩:=hr;obtain⟨k0,_,k2,k3⟩:=Z5r hq;rw[Nat.sub_zero]at k2;obtain⟨en,n1,n2,n3⟩:=hm.2 j _ k2;simp only[DenL]at n3;obtain⟨_,_,e1,hdk0,_,_,e2,_,e3⟩:=n3;cases e1;cases e2
  obtain⟨heq,hsb⟩:=Z2d k3 hdk hdk0
  have hes:(es.modify j fun e=>{e with key:=ρ k})=es:=by
   apply Array.ext_getElem?;intro a;rw[Array.getElem?_modify];split
   ·rename_i hja;subst hja;rw[n1,heq];rfl
   ·rfl
  obtain⟨g1,g2⟩:=map_set A.H hb he h2 h3 hm;rw[Z2Z h3]at g1;refine⟨.tuple #[xv, .int .i64 (j:Int)],w,η, .inl (by simp[execOp,Instr.mapEntry,Z3 hd,hv,JG h3,hck,hf,n1,<-heq,Z2f hsb,hes];rw[g1];simp[goInt,n2]),List.prefix_rfl,A.H,?_,fun h=>by cases h⟩;simp only[Den,DenL];exact⟨_,rfl,_,_,rfl,hdx,_,_,rfl,rfl,rfl⟩
theorem Zcc(H:HeapOK M η w O nx){i es r c:Nat}{rs:List (List DC)}{row:List DC}{d0:DC}{s:SV}{u:Value}{e:Ent}{arr:Array Value}{T:TypeId}{fz:Nat×Nat}(hb:lkp i O=some (.deep false es rs))(he:η[i]?=some (some e))(hw:w.heap[e.g]?=some (.cells arr T fz))(hrow:rs[r]?=some row)(hc:row[c]?=some d0)(hd:Den η s u)(h1:u.oneCell'=true)
 {w':World} (hw':w'.heap[e.g]?=some (.cells (arr.toList.take (r*es+c)++ [u]++arr.toList.drop (r*es+c+1)).toArray T fz)) (hother:∀k,k≠e.g->w'.heap[k]?=w.heap[k]?) (hsz:w'.heap.size=w.heap.size) (ho:w'.os=w.os) (ht:w'.tape=w.tape) (hp:w'.output=w.output) (hdr:w.drawn<=w'.drawn):
 r*es+c+1<=arr.size/\HeapOK M η w' (setK i (.deep false es (setC rs r c (.v s))) O) nx:=by
 have hsat:=(H.own.1 i _ hb).1;have hsat':=hsat;obtain⟨_,hD,_⟩:=hsat.deep_ent;have hbase:=(hD e he).1;have hK:=(hD e he).2 _ hw;simp only[HpSat]at hsat';obtain⟨d1,_⟩:=hsat';have hfr:(Zs rs)[r]?=some (row.map ZN):=by rw[Y6,hrow];rfl
 have hclt:=(List.getElem?_eq_some_iff.1 hc).1;rcases d1 with⟨h,_⟩|⟨e',arr',T',fz',q1,q2,q3,q4⟩
 ·rw[show η.get (.loc i)=some (some e)from he]at h;cases h
 rw[show η.get (.loc i)=some (some e)from he]at q1;injection q1 with q1;injection q1 with q1;subst q1
 rw[hw]at q2;injection q2 with q2;injection q2 with q2 q2b q2c;subst q2 q2b q2c
 obtain⟨g1,g2,g3,g4⟩:=q3 rfl;rw[g4]at q4;have hdl:DenL η [s] [u]:=by simp only[DenL];exact⟨_,_,rfl,hd,rfl⟩
 obtain⟨hfit,hrows⟩:=Z2S (c:=c) g2 g3 q4 hfr hdl (fun x hx=>by rw[List.mem_singleton.1 hx];exact h1) (by simp;omega);simp only[List.length_singleton]at hfit hrows
 have hset:(row.map ZN).take c++ [s]++(row.map ZN).drop (c+1)=(row.set c (.v s)).map ZN:=by
  rw[List.map_set,List.set_eq_take_append_cons_drop,if_pos (by simpa using hclt)];simp[ZN]
 rw[hset]at hrows
 have hflat:(Zs rs).set r ((row.set c (.v s)).map ZN)=Zs (setC rs r c (.v s)):=by
  apply List.ext_getElem?;intro a;rw[Wb,List.getElem?_set];by_cases ha:r=a
  ·subst ha;have:=(List.getElem?_eq_some_iff.1 hfr).1;simp only[if_pos,hfr,Option.map_some,if_true,this,List.map_set]
  ·rw[if_neg ha,if_neg (fun h=>ha h.symm)]
 rw[hflat]at hrows;have hrl:row.length=es:=by have:=(q4 r _ hfr).1;simpa using this
 have harr:∀a,a≠r*es+c->(arr.toList.take (r*es+c)++ [u]++arr.toList.drop (r*es+c+1)).toArray[a]?=arr[a]?:=by
  intro a ha;rw[List.getElem?_toArray,List.append_assoc,List.getElem?_append];split
  ·rename_i hlt;rw[List.length_take,Array.length_toList]at hlt;rw[List.getElem?_take,if_pos (by omega),Array.getElem?_toList]
  ·rename_i hge;rw[List.length_take,Array.length_toList,Nat.min_eq_left (by omega)]at hge⊢;rw[List.singleton_append,List.getElem?_cons,if_neg (by omega),List.getElem?_drop,Array.getElem?_toList];congr 1;omega
 have hsz2:(arr.toList.take (r*es+c)++ [u]++arr.toList.drop (r*es+c+1)).toArray.size=arr.size:=by
  simp only[List.size_toArray,List.length_append,List.length_take,List.length_drop,Array.length_toList,List.length_singleton];omega
 have hkid:∀a b y,Yd (setC rs r c (.v s)) a b=some y->Yd rs a b=some y/\ZF (.cells (arr.toList.take (r*es+c)++ [u]++arr.toList.drop (r*es+c+1)).toArray T fz) es a b=ZF (.cells arr T fz) es a b:=by
  intro a b y h;obtain⟨h5,h6⟩:=JT h;refine⟨h5,harr _ fun hab=>h6 ?_⟩;obtain⟨y1,y2⟩:=y;obtain⟨rowa,h7,h8⟩:=kidAt_some.1 h5;have hal:rowa.length=es:=by have:=(q4 a (rowa.map ZN) (by rw[Y6,h7];rfl)).1;simpa using this
  have hb2:=(List.getElem?_eq_some_iff.1 h8).1
  have key:∀{a b r c:Nat},b<es->c<es->a<r->a*es+b=r*es+c->False:=by
   intro a b r c hb hc har he;have:(a+1)*es<=r*es:=Nat.mul_le_mul_right _ har;rw[Nat.succ_mul]at this;omega
  rcases Nat.lt_trichotomy a r with h9|rfl|h9
  ·exact(key (by omega) (by omega) h9 hab).elim
  ·exact⟨rfl,by omega⟩
  ·exact(key (by omega) (by omega) h9 hab.symm).elim
 refine⟨hfit,H.updF hb he hother hsz ho ht hp ?_ hdr fun m fm=>?_⟩
 ·refine HpSat.deep_of (mp:=false) (.inr ⟨e,_,T,fz,show η.get (.loc i)=some (some e)from he,hw',fun _=>⟨by rw[hsz2];exact g1,by rw[hsz2];exact g2,by rw[<-hflat,List.length_set];exact g3,g4⟩,by rw[g4];exact hrows⟩) (fun h=>by cases h) fun e' h2=>?_;rw[show η.get (.loc i)=some (some e)from he]at h2;injection h2 with h2;injection h2 with h2;subst h2
  refine⟨hbase,fun o' ho'=>?_⟩;rw[hw']at ho';injection ho' with ho';subst ho'
  refine⟨fun a b es'' rows'' hk=>?_,fun a b a' b' y y' z z' k h1 h2 h3 h4 h5 h6=>?_⟩
  ·obtain⟨p1,p2⟩:=hkid a b _ hk;obtain⟨z,p3,p4,p5⟩:=hK.sat a b _ _ p1;refine⟨z,p2.trans p3,p4.keep fun k hz=>hother k fun e=>?_,p5⟩;subst e;exact p5 hz
  ·obtain⟨p1,p2⟩:=hkid a b _ h1;obtain⟨p1',p2'⟩:=hkid a' b' _ h2;exact hK.ne a b a' b' y y' z z' k p1 p1' (p2▸h3) (p2'▸h4) h5 h6
 ·rcases fm.of (e:=e) (show η.get (.loc i)=some (some e)from he)with rfl|fm
  ·exact feet.own he
  ·simp only[kid]at fm;obtain⟨o',a,b,y,z,f1,f2,f3,f4⟩:=fm;rw[hw']at f1;injection f1 with f1;subst f1
   obtain⟨p1,p2⟩:=hkid a b _ f2;exact⟨e,he, .inr (by simp only[kid];exact⟨_,a,b,y,z,hw,p1,p2▸f3,f4⟩)⟩
theorem Zg9(A:At M η w O nx ρ lk)(t:TypeId)(x y:Operand)(hr:(opR M.C lk O nx (.store t x y)).ok O nx v O' nx'):Y3 M η w ⟨dst, .store t x y,ty,pos,af,gd⟩ ρ v O' nx':=by
 simp only[opR,Zfh]at hr;split at hr
 ·exact hr.elim
 rename_i hok;have hsh:M.C.T.sh t≠ .other:=by intro h;simp[okSh,h]at hok
 split at hr
 ·exact hr.elim
 rename_i hsz0;have hsz0:=Jv hsz0;split at hr
 case h_2=>exact hr.elim
 rename_i p hx;split at hr
 case h_2=>exact hr.elim
 rename_i sv hy;split at hr
 ·rename_i i r es c;split at hr
  ·rename_i es' rs hb;split at hr
   case h_2=>exact hr.elim
   rename_i hes hs1;have hes:=Zn hes;have hs1:=Zn hs1;subst hes;split at hr
   case h_2=>exact hr.elim
   rename_i s hvs;have hxv:=A.L _ _ hx;have hyv:=A.L _ _ hy;simp only[Den]at hxv;obtain⟨e,he,hv⟩:=hxv;cases hcd:Z0T rs r c with
   |none=>rw[hcd]at hr;exact hr.elim
   |some q=>
    obtain⟨a,d0⟩:=q;rw[hcd]at hr;have hr:(WZ M.C.T t O i (fun d=> .deep false es (rs.modify r fun row=>row.set c d)) s).ok O nx v O' nx':=hr;obtain⟨row,hrow,hcell⟩:=Z9A hcd;obtain⟨h5,h6⟩:=UJ hyv hvs;simp only[DenL]at h5;obtain⟨u,us,h5,h7,h8⟩:=h5;have hsat:=(A.H.own.1 i _ hb).1;simp only[HpSat]at hsat;obtain⟨d1,hD⟩:=hsat;rcases d1 with⟨h,_⟩|⟨e',arr,T,fz,q1,q2,q3,q4⟩
    ·rw[he]at h;cases h
    rw[he]at q1;injection q1 with q1;injection q1 with q1;subst q1
    obtain⟨g1,g2,g3,g4⟩:=q3 rfl;obtain⟨ie,hie,hies,_⟩:=A.T.info t hsh;have hus:us=[]:=h8;subst hus;have hone:∀z∈ [u],z.oneCell'=true:=fun z hz=>h6 z (by rw[h5];exact hz)
    have hfit:r*es+c+1<=arr.size:=by
     have hfr:(Zs rs)[r]?=some (row.map ZN):=by rw[Y6,hrow];rfl
     obtain⟨_,g6⟩:=q4 r _ hfr;obtain⟨z,g7,_⟩:=g6 c (ZN d0) (by rw[List.getElem?_map,hcell];rfl);rw[g4]at g7;have:=(Array.getElem?_eq_some_iff.1 g7).1;omega
    have hst:=X3 (P:=M.P) e.g (r*es+c) T fz [u] 0 arr w q2 (by simpa using hfit) g1 hone;simp only[Nat.add_zero]at hst
    have hcs:(ρ y).cells.size=ie.size:=by
     have:(ρ y).cells.toList.length=M.C.T.size t:=by rw[h5,hs1];rfl
     rw[hies];simpa using this
    obtain⟨_,hH⟩:=Zcc A.H hb he q2 hrow hcell h7 (hone u (List.mem_singleton.2 rfl)) (setRow_heap w e.g arr _ T fz q2) (fun k hk=>setRow_other w e.g k _ hk) (setRow_size _ _ _) rfl rfl rfl (Nat.le_refl _);have hsome:(lkp i O).isSome:=by rw[hb];rfl
    obtain⟨H2,rfl,rfl⟩:=Z2T hr (mp:=false) (es:=es) (rsv:=setC rs r c (.v s)) (r:=r) (c:=c) (row:=row.set c (.v s)) (fun d=>by rw[setC_setC];rfl) rfl (by rw[Yj,if_pos rfl,hrow];rfl) (by rw[List.getElem?_set_self (List.getElem?_eq_some_iff.1 hcell).1]) hsome hH;refine⟨undef,_,η, .inr ⟨?_,rfl⟩,List.prefix_rfl,H2,V3 η,fun h=>by cases h⟩;rw[g4,Nat.zero_add]at hv;simp only[execOp,hv,Instr.storeAt,Instr.sureAddr,storeVar,Sem.run_bind,Sem.run_pure,Result.andThen_ok,Zq hie,Sem.run_ite,hcs];rw[if_neg (by simp)];simp only[Sem.run_bind,Sem.run_pure,Result.andThen_ok,h5,hst]
    rfl
  ·exact Z1B A t x y hsh hsz0 hx hy hr
 ·exact Z1B A t x y hsh hsz0 hx hy hr
end
section
variable {M:Mx}{η:Env}{w:World}{O:Hps}{nx:Nat}{ρ:Operand->Value}{lk:Operand->Option SV}{v:SV}{O':Hps}{nx':Nat}{dst:Option Tmp}{ty:TypeId}{pos:String}{af:Array Edge}{gd:Option (Nat×Bool)}
theorem Zcd{rs:List (List SV)}{es:Array MapEntry}(hm:UC η rs es){n:Int}(h0:0<=n)(h1:n< (rs.length:Int)):es.findIdx? (fun e=>(e.born:Int)==n)=some n.toNat:=by
 have at':∀(j:Nat) (hj:j<es.size),es[j].born=j:=fun j hj=>by
  obtain⟨e,e1,e2,_⟩:=hm.2 j _ (List.getElem?_eq_getElem (by rw[<-hm.1];exact hj));rw[Array.getElem?_eq_getElem hj]at e1;injection e1 with e1;rw[e1];exact e2
 have hn:n.toNat<es.size:=by rw[hm.1];omega
 rw[Array.findIdx?_eq_some_iff_getElem];refine⟨hn,?_,fun j hj=>?_⟩
 ·rw[at' _ hn];simp;omega
 ·rw[at' j (by omega)];simp;omega
theorem Z6N(A:At M η w O nx ρ lk)(t:TypeId)(m k x:Operand)(hr:(opR M.C lk O nx (.entryStore t m k x)).ok O nx v O' nx'):Y3 M η w ⟨dst, .entryStore t m k x,ty,pos,af,gd⟩ ρ v O' nx':=by
 simp only[opR,Z2A]at hr;split at hr
 case h_2=>exact hr.elim
 rename_i kn n hi;split at hr
 case h_2=>exact hr.elim
 rename_i sv hx;split at hr
 case h_2=>exact hr.elim
 rename_i i hmv;split at hr
 case h_3=>exact hr.elim
 case h_2=>
  rename_i es rs hb;split at hr
  case h_2=>exact hr.elim
  rename_i kt et hs;obtain⟨⟨hn0,hn1⟩,hr⟩:=hr;have hxv:=A.L _ _ hmv;simp only[Den,Env.get]at hxv;obtain⟨e,he,hv⟩:=hxv;have hsat:=(A.H.own.1 i _ hb).1;simp only[HpSat,Env.get]at hsat;obtain⟨⟨⟨e',ens,h1,h2,h3,h4,h5⟩,_⟩,_⟩:=hsat;rw[show η.get (.loc i)=some (some e)from he]at h1;injection h1 with h1;injection h1 with h1;subst h1
  have hm:UC η (Zs rs) ens:=⟨h4,h5⟩;have hsome:(lkp i O).isSome:=by rw[hb];rfl
  have hdk:ρ k= .int kn n:=A.L _ _ hi;have hdx:=A.L _ _ hx;have hlt:n.toNat<rs.length:=by omega
  have hrow0:rs[n.toNat]?=some rs[n.toNat]:=List.getElem?_eq_getElem hlt;have hfr0:(Zs rs)[n.toNat]?=some (rs[n.toNat].map ZN):=by rw[Y6,hrow0];rfl
  obtain⟨en,n1,n2,n3⟩:=hm.2 _ _ hfr0
  obtain⟨k0,d0,hkv,hdk0⟩:∃k0 d0,rs[n.toNat]=[k0,d0]/\Den η (ZN k0) en.key:=by
   cases hq:rs[n.toNat]with
   |nil=>rw[hq]at n3;simp[DenL]at n3
   |cons a l=>
    rw[hq]at n3;cases l with
    |nil=>simp[DenL]at n3
    |cons b l=>
     cases l with
     |nil=>simp only[List.map_cons,List.map_nil,DenL]at n3;obtain⟨_,_,e1,d1,_⟩:=n3;cases e1;exact⟨a,b,rfl,d1⟩
     |cons c l=>
      simp only[List.map_cons,DenL]at n3;obtain⟨_,_,e1,_,_,_,e2,_,_,_,e3,_⟩:=n3;cases e1;cases e2;cases e3
  rw[hkv]at hrow0
  have hmod:(ens.modify n.toNat fun e=>{e with key:=en.key,val:=ρ x})=ens.modify n.toNat fun e=>{e with val:=ρ x}:=by
   apply Array.ext_getElem?;intro a;rw[Array.getElem?_modify,Array.getElem?_modify];split
   ·rename_i hja;subst hja;rw[n1];rfl
   ·rfl
  obtain⟨hp1,hp2⟩:=Zca (es:=es) hm hrow0 n1 hdk0 hdx;rw[hmod]at hp1 hp2;obtain⟨H2,rfl,rfl⟩:=Z2T hr (mp:=true) (es:=es) (rsv:=setC rs n.toNat 1 (.v sv)) (r:=n.toNat) (c:=1) (row:=[k0, .v sv]) (fun d=>by rw[Wc hrow0,setC_setC]) (by rw[Wc hrow0]) (by rw[Yj,if_pos rfl,hrow0];rfl) rfl hsome (by rw[Wc hrow0];exact Z5s A.H hb he h3 hp1 hp2)
  have g1:(setObj e.g (.map (ens.modify n.toNat fun e=>{e with val:=ρ x}) ens.size)).run M.P w= .ok () (Xa w e.g (ens.modify n.toNat fun e=>{e with val:=ρ x})):=by
   simp[setObj,Sem.run,h3,Xa]
  exact⟨undef,_,η, .inr ⟨by simp[execOp,Instr.entryStore,hv,JG h3,hdk,asInt,asIntOf,Zcd hm hn0 (by rw[Y7];exact hn1)];rw[g1];rfl,rfl⟩,List.prefix_rfl,H2,V3 η,fun h=>by cases h⟩
 rename_i rs hb;obtain⟨⟨hn0,hn1⟩,rfl,rfl,rfl⟩:=hr;have hxv:=A.L _ _ hmv;simp only[Den,Env.get]at hxv;obtain⟨e,he,hv⟩:=hxv;obtain⟨hsat,_⟩:=A.H.own.1 i _ hb;simp only[HpSat,Env.get]at hsat;obtain⟨e',es,h1,h2,h3,h4⟩:=hsat;rw[he]at h1;cases h1;have hm:UC η rs es:=h4;have hdk:ρ k= .int kn n:=A.L _ _ hi;have hdx:=A.L _ _ hx;have hlt:n.toNat<rs.length:=by omega
 have hrow:rs[n.toNat]?=some rs[n.toNat]:=List.getElem?_eq_getElem hlt;obtain⟨en,n1,n2,n3⟩:=hm.2 _ _ hrow
 obtain⟨k0,v0,hkv,hdk0⟩:∃k0 v0,rs[n.toNat]=[k0,v0]/\Den η k0 en.key:=by
  cases hq:rs[n.toNat]with
  |nil=>rw[hq]at n3;simp[DenL]at n3
  |cons a l=>
   rw[hq]at n3;cases l with
   |nil=>simp[DenL]at n3
   |cons b l=>
    cases l with
    |nil=>simp only[DenL]at n3;obtain⟨_,_,e1,d1,_⟩:=n3;cases e1;exact⟨a,b,rfl,d1⟩
    |cons c l=>
     simp only[DenL]at n3;obtain⟨_,_,e1,_,_,_,e2,_,_,_,e3,_⟩:=n3;cases e1;cases e2;cases e3
 rw[hkv]at hrow
 have hmod:(es.modify n.toNat fun e=>{e with key:=en.key,val:=ρ x})=es.modify n.toNat fun e=>{e with val:=ρ x}:=by
  apply Array.ext_getElem?;intro a;rw[Array.getElem?_modify,Array.getElem?_modify];split
  ·rename_i hja;subst hja;rw[n1];rfl
  ·rfl
 have hput:=Z2X hm hrow hdk0 hdx;rw[hmod]at hput;obtain⟨g1,g2⟩:=map_set A.H hb he h2 h3 hput;rw[Array.size_modify]at g1;exact⟨undef,_,η, .inr ⟨by simp[execOp,Instr.entryStore,hv,JG h3,hdk,asInt,asIntOf,Zcd hm hn0 hn1];rw[g1];rfl,rfl⟩,List.prefix_rfl,g2,V3 η,fun h=>by cases h⟩
end
end Go.Sx
