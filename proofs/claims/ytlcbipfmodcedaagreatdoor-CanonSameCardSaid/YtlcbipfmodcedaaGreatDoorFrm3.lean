/- Part 3: SxOpsJ, SxSound, SxSoundG, SxSpec, SxCall, SxUse, SxBack, SxAuto, Utf, TmM, SxAuto2, Utf2, Rune, IriM, NamesM, PartM. Conditions: as each part says. -/
import Derived.Tactics
import Derived.IntWalk
import Derived.Lib.Bytealg
import Derived.Test.YtlcbipfmodcedaaGreatDoorFrm1
import Derived.Test.YtlcbipfmodcedaaGreatDoorFrm2
set_option linter.unusedVariables false
set_option linter.unusedSimpArgs false
namespace Go.Sx
open Go
section
variable {M:Mx}{K:Env}{w:World}{O:vX}{nx:Nat}{ρ:Operand->Value}{lk:Operand->Option SV}{v:SV}{O':vX}{vW:Nat}{dst:Option Tmp}{ty:TypeId}{pos:String}{af:Array Edge}{gd:Option (Nat×Bool)}
theorem Ii(A:At M K w O nx ρ lk)(args:Array Operand)(ts:Array TypeId)(hr:(w5 M.C lk O nx (.call ⟨.builtin .min,args,ts⟩)).ok O nx v O' vW):Y7 M K w ⟨dst, .call ⟨.builtin .min,args,ts⟩,ty,pos,af,gd⟩ ρ v O' vW:=by
 simp only[w5,Vt,Qu]at hr;split at hr
 case h_2=>exact hr.elim
 rename_i x y ha;obtain rfl:args= #[x,y]:=by apply yD;simpa using ha
 split at hr
 case h_2=>exact hr.elim
 rename_i k a hx;split at hr
 case h_2=>exact hr.elim
 rename_i k' b hy;have h1:=V5 (A.L _ _ hx);have h2:=V5 (A.L _ _ hy);exact A.val hr ⟨.int k (if b<a then b else a), .inl (by simp[execOp,resolve,invoke,builtin,h1,h2,Builtin.min_,Builtin.min2]),rfl⟩
theorem Ij(A:At M K w O nx ρ lk)(args:Array Operand)(ts:Array TypeId)(hr:(w5 M.C lk O nx (.call ⟨.builtin .max,args,ts⟩)).ok O nx v O' vW):Y7 M K w ⟨dst, .call ⟨.builtin .max,args,ts⟩,ty,pos,af,gd⟩ ρ v O' vW:=by
 simp only[w5,Vt,Qv]at hr;split at hr
 case h_2=>exact hr.elim
 rename_i x y ha;obtain rfl:args= #[x,y]:=by apply yD;simpa using ha
 split at hr
 case h_2=>exact hr.elim
 rename_i k a hx;split at hr
 case h_2=>exact hr.elim
 rename_i k' b hy;have h1:=V5 (A.L _ _ hx);have h2:=V5 (A.L _ _ hy);exact A.val hr ⟨.int k (if a<b then b else a), .inl (by simp[execOp,resolve,invoke,builtin,h1,h2,Builtin.max_,Builtin.max2]),rfl⟩
theorem Ik(A:At M K w O nx ρ lk)(t:TypeId)(x:Operand)(hr:(w5 M.C lk O nx (.range t x)).ok O nx v O' vW):Y7 M K w ⟨dst, .range t x,ty,pos,af,gd⟩ ρ v O' vW:=by
 simp only[w5,AB]at hr;split at hr
 case h_2=>exact hr.elim
 rename_i hs;obtain⟨d,hd,hm⟩:=A.T.qC t (by rw[hs];simp);rw[hs]at hm;simp only[qx]at hm;subst hm;split at hr
 case h_2=>exact hr.elim
 rename_i s hx;obtain⟨rfl,rfl,rfl⟩:=hr;have uv:=lP (A.L _ _ hx);refine⟨.pointer (some ⟨w.heap.size,0,none⟩),X4 w (.stringIter ⟨s.toArray⟩ 0),K++ [some ⟨w.heap.size,0,0⟩], .inl ?_,zz _ _,?_,?_,fun _ h=>absurd h (by simp)⟩;simp[execOp,uv,Instr.range,Z6 hd,X4]
 .refine A.H.alloc (w':=X4 w (.stringIter ⟨s.toArray⟩ 0)) rfl rfl rfl rfl 0 0 ?_;simp only[vT];exact⟨_,ZO A.H.len _,rfl,Yx (w:=w) (w':=X4 w (.stringIter ⟨s.toArray⟩ 0)) rfl⟩
 simp only[Den];exact⟨_,ZO A.H.len _,by simp⟩
theorem Il(A:At M K w O nx ρ lk)(x:Operand)(b:Bool)(hr:(w5 M.C lk O nx (.next x b)).ok O nx v O' vW):Y7 M K w ⟨dst, .next x b,ty,pos,af,gd⟩ ρ v O' vW:=by
 simp only[w5,AE]at hr;split at hr
 case h_2=>exact hr.elim
 split at hr
 case h_2=>exact hr.elim
 rename_i i r es c hx;split at hr
 case h_2=>exact hr.elim
 rename_i s pos' hh;split at hr
 case h_2=>exact hr.elim
 rename_i hz;have hz:=Zr hz;have uv:=A.L _ _ hx;simp only[Den,Env.get]at uv;obtain⟨en,hb,uv⟩:=uv;obtain⟨u9,_⟩:=A.H.own.1 i _ hh;simp only[vT,Env.get]at u9;obtain⟨cu,h1,h2,h3⟩:=u9;rw[hb]at h1;injection h1 with h1;injection h1 with h1;subst h1
 rw[h2,hz]at uv;simp only[zx]at uv;have hlt:en.g<w.heap.size:=(zA.1 h3).1;have qm:(getObj en.g).run M.P w= .ok (.stringIter ⟨s.toArray⟩ pos') w:=by simp[getObj,Sem.run,h3]
 simp only[ux.ok,yw]at hr;split at hr
 .rename_i hp;obtain⟨rfl,rfl,rfl⟩:=hr;have wK:(setObj en.g (.stringIter ⟨s.toArray⟩ (pos'+(Utf8.decode ⟨s.toArray⟩ pos').2))).run M.P w= .ok () {w with heap:=w.heap.setIfInBounds en.g (.stringIter ⟨s.toArray⟩ (pos'+(Utf8.decode ⟨s.toArray⟩ pos').2))}:=by simp[setObj,Sem.run,h3]
  refine⟨.tuple #[.bool true, .int .i64 (pos':Int), .int .i32 ((Utf8.decode ⟨s.toArray⟩ pos').1:Int)],{w with heap:=w.heap.setIfInBounds en.g (.stringIter ⟨s.toArray⟩ (pos'+(Utf8.decode ⟨s.toArray⟩ pos').2))},K, .inl ?_,zu,?_,?_,fun h=>by cases h⟩
  .simp[execOp,uv,Instr.next,qm,VM,hp,wK,goInt]
  .refine A.H.kZ hh hb (fun k hk=>?_) (by simp) rfl rfl rfl ?_;simp[yT,yY hk]
   .simp only[vT,Env.get];exact⟨en,hb,h2,by simp[hlt]⟩
  .simp only[Den,vV];exact⟨_,rfl,_,_,rfl,rfl,_,_,rfl,rfl,_,_,rfl,rfl,rfl⟩
 .rename_i hp;obtain⟨rfl,rfl,rfl⟩:=hr;refine A.same (u:= .tuple #[.bool false]) (.inl ?_) ?_ rfl rfl
  .simp[execOp,uv,Instr.next,qm,VM,hp]
  simp only[Den,vV];exact⟨_,rfl,_,_,rfl,rfl,rfl⟩
theorem Pc(l:List UInt8):(l.map bytesRow).map iB=l:=by
 rw[xo];conv=>rhs;rw[<-List.map_id l]
 apply yy;intro b _;simp[bytesRow,iB]
theorem Pf{K:Env}:∀{l:List UInt8} {news:List Value},uh K 1 (l.map bytesRow) news->news=l.map fun c=> .int .u8 (c.toNat:Int)
 | [],news,h=>by simpa[uh]using h
 |c::l,news,h=>by
  simp only[zG,uh]at h;obtain⟨us,ws,rfl,_,h1,h2⟩:=h;simp only[bytesRow,vV,Den]at h1;obtain⟨u,us',rfl,rfl,rfl⟩:=h1;rw[Pf h2];rfl
theorem Im(A:At M K w O nx ρ lk)(a b:TypeId)(x:Operand)(hr:(w5 M.C lk O nx (.convert a b x)).ok O nx v O' vW):Y7 M K w ⟨dst, .convert a b x,ty,pos,af,gd⟩ ρ v O' vW:=by
 simp only[w5,Aq]at hr;split at hr
 exact hr.elim;rename_i hok;have iI:M.C.T.sh a≠ .other:=by intro h;simp[qE,h]at hok
 obtain⟨da,hda,hma⟩:=A.T.qC a iI
 have bG:∀{t e:TypeId},Qr M.C.T t=some e->M.P.underlying t=some (.slice e)/\M.P.underlying e=some (.int .u8):=by
  intro t e h;unfold Qr at h;split at h
  case h_2=>cases h
  rename_i q hq;split at h
  case h_2=>cases h
  rename_i lQ;injection h with h;subst h;obtain⟨d,hd,hm⟩:=A.T.qC t (by rw[hq];simp);rw[hq]at hm;simp only[qx]at hm;subst hm;obtain⟨d,hd',hm⟩:=A.T.qC q (by rw[lQ];simp);rw[lQ]at hm;simp only[qx]at hm;subst hm;exact⟨hd,hd'⟩
 split at hr
 .rename_i k n hx;have uv:=V5 (A.L _ _ hx);split at hr
  case h_3=>exact hr.elim
  .rename_i k' hs;obtain⟨d,hd,hm⟩:=A.T.qC b (by rw[hs];simp);rw[hs]at hm;simp only[qx]at hm;subst hm;refine A.val hr ⟨.int k' (k'.wrap n), .inl ?_,rfl⟩
   have:(convert a b (.int k n)).run M.P w= .ok (.int k' (k'.wrap n)) w:=by
    simp only[convert,Sem.run_bind,Z6 hda,Z6 hd,Result.andThen_ok];cases da<;>rfl
   simp[execOp,uv,this]
  .rename_i hs;obtain⟨d,hd,hm⟩:=A.T.qC b (by rw[hs];simp);rw[hs]at hm;simp only[qx]at hm;subst hm;refine A.val hr ⟨.string (Utf8.encode n), .inl ?_,rfl⟩
   have:(convert a b (.int k n)).run M.P w= .ok (.string (Utf8.encode n)) w:=by
    simp only[convert,Sem.run_bind,Z6 hda,Z6 hd,Result.andThen_ok];cases da<;>rfl
   simp[execOp,uv,this]
 .rename_i s hx;have uv:=lP (A.L _ _ hx);split at hr
  .rename_i hs;obtain⟨d,hd,hm⟩:=A.T.qC b (by rw[hs];simp);rw[hs]at hm;simp only[qx]at hm;subst hm;refine A.val hr ⟨.string ⟨s.toArray⟩, .inl ?_,rfl⟩
   have:(convert a b (.string ⟨s.toArray⟩)).run M.P w= .ok (.string ⟨s.toArray⟩) w:=by
    simp only[convert,Sem.run_bind,Z6 hda,Z6 hd,Result.andThen_ok];cases da<;>rfl
   simp[execOp,uv,this]
  .split at hr
   case h_2=>exact hr.elim
   rename_i e he;obtain⟨hd,hd'⟩:=bG he;split at hr
   case h_2=>exact hr.elim
   rename_i hsz;have hsz:=Zr hsz;split at hr
   case h_2=>exact hr.elim
   rename_i hsrc;obtain⟨da',D0,sy⟩:=A.T.qC a (by rw[hsrc];simp);rw[hsrc]at sy;simp only[qx]at sy;subst sy;obtain⟨hlen,rfl,rfl,rfl⟩:=hr;have hrun:=run_bytes_of_string (P:=M.P) w a b e ⟨s.toArray⟩ D0 hd hd';rw[VM]at hrun;have hge:=grownCap_ge w s.length 0 e;have D1:(Go.bytesRow ⟨s.toArray⟩ (grownCap w s.length 0 e)).size=grownCap w s.length 0 e:=by simp[Go.bytesRow,VM];omega
   refine⟨_,w.drew.alloc (.cells (Go.bytesRow ⟨s.toArray⟩ (grownCap w s.length 0 e)) e ((Go.bytesRow ⟨s.toArray⟩ (grownCap w s.length 0 e)).size,(Go.bytesRow ⟨s.toArray⟩ (grownCap w s.length 0 e)).size+1)),K++ [some ⟨w.heap.size,0,grownCap w s.length 0 e⟩],
    .inl (by simp only[execOp,uv,Sem.run_bind,hrun,Result.andThen_ok,Sem.run_pure]),zz _ _,?_,UN A.H.len hge,fun _ h=>absurd h (by simp)⟩
   refine vR.alloc (w':=w.drew.alloc (.cells (Go.bytesRow ⟨s.toArray⟩ (grownCap w s.length 0 e)) e ((Go.bytesRow ⟨s.toArray⟩ (grownCap w s.length 0 e)).size,(Go.bytesRow ⟨s.toArray⟩ (grownCap w s.length 0 e)).size+1))) A.H rfl rfl rfl rfl 0 _ ?_;simp only[vT];right
   refine⟨_,Go.bytesRow ⟨s.toArray⟩ (grownCap w s.length 0 e),e,((Go.bytesRow ⟨s.toArray⟩ (grownCap w s.length 0 e)).size,(Go.bytesRow ⟨s.toArray⟩ (grownCap w s.length 0 e)).size+1),ZO A.H.len _,Yx (w:=w) (o:= .cells (Go.bytesRow ⟨s.toArray⟩ (grownCap w s.length 0 e)) e ((Go.bytesRow ⟨s.toArray⟩ (grownCap w s.length 0 e)).size,(Go.bytesRow ⟨s.toArray⟩ (grownCap w s.length 0 e)).size+1)) rfl,fun _=>⟨?_,by rw[D1,xL],by simpa using hge,rfl⟩,?_⟩;intro o ho h;omega
   .intro k row hk;rw[z6]at hk;cases hq:s[k]? with
    |none=>rw[hq]at hk;cases hk
    |some c=>
     rw[hq]at hk;injection hk with hk;subst hk;refine⟨rfl,fun j sv hj=>?_⟩;cases j with
     |succ j=>simp[bytesRow]at hj
     |zero=>
      simp[bytesRow]at hj;subst hj;have av:=(ze.1 hq).1;refine⟨.int .u8 (c.toNat:Int),?_,rfl,rfl⟩;simp only[Go.bytesRow,zx,xL,Nat.add_zero];rw[y9 (by simpa using av)];simp[hq]
 .rename_i bb r es len lim hx;split at hr
  case h_2=>exact hr.elim
  rename_i hs;obtain⟨d,hd,hm⟩:=A.T.qC b (by rw[hs];simp);rw[hs]at hm;simp only[qx]at hm;subst hm;split at hr
  case h_2=>exact hr.elim
  rename_i e he;obtain⟨j8,hd2⟩:=bG he;split at hr
  case h_2=>exact hr.elim
  rename_i xs m hrows;obtain⟨⟨hl,l,hxl⟩,hr⟩:=hr;have aq:=A.L _ _ hx;obtain⟨news,N⟩:=Xi A aq hrows hl
  have hm:m=len:=by
   unfold nM at hrows;simp only at hrows;split at hrows
   case h_2=>cases hrows
   split at hrows
   case h_2=>cases hrows
   split at hrows
   case h_2=>cases hrows
   simp only[zi,yF]at hrows;exact hrows.2.symm
  subst hm;subst hxl;rw[Pc]at hr;refine A.val hr ⟨.string ⟨l.toArray⟩, .inl ?_,rfl⟩;have hnews:=Pf N.den;have hf:=N.first w rfl;simp only[zy]at hl;simp only[Den]at aq;rcases aq with⟨_,uv,h0⟩|⟨en,o,_,uv,_⟩
  .subst h0;have:l=[]:=zM.1 hl;subst this;simp[execOp,uv,convert,Z6 j8,Z6 hd,Z6 hd2,Conv.bytesToString]
   rfl
  .rw[uv]at hf;simp only[Builtin.firstCells,xL]at hf
   have QN:(convert a b (.slice (some ⟨en.g,o,none⟩) m (lim.getD en.cap-r))).run M.P w= .ok (.string ⟨l.toArray⟩) w:=by
    rw[run_convert_bytes_string w a b e _ m _ j8 hd2 hd]
    have hf':(loadCells ⟨en.g,o,none⟩ m).run M.P w= .ok ((l.map (fun c=>(c.toNat:Int))).map (Value.int .u8)).toArray w:=by
     rw[hf,hnews];simp
    rw[run_bytesToString w _ m _ _ hf',foldl_push_byteCells];simp
   simp[execOp,uv,QN]
 .rename_i hx;obtain⟨uv,_⟩:ρ x= .slice none 0 0/\True:=⟨And.left (A.L _ _ hx),trivial⟩;split at hr
  case h_2=>exact hr.elim
  rename_i hs;obtain⟨d,hd,hm⟩:=A.T.qC b (by rw[hs];simp);rw[hs]at hm;simp only[qx]at hm;subst hm;split at hr
  case h_2=>exact hr.elim
  rename_i e he;obtain⟨j8,hd2⟩:=bG he;refine A.val hr ⟨.string ⟨[].toArray⟩, .inl ?_,rfl⟩;simp[execOp,uv,convert,Z6 j8,Z6 hd,Z6 hd2,Conv.bytesToString]
  rfl
 exact hr.elim
theorem Io(A:At M K w O nx ρ lk)(args:Array Operand)(ts:Array TypeId)(hr:(w5 M.C lk O nx (.call ⟨.builtin .copy,args,ts⟩)).ok O nx v O' vW):Y7 M K w ⟨dst, .call ⟨.builtin .copy,args,ts⟩,ty,pos,af,gd⟩ ρ v O' vW:=by
 simp only[w5,Vt,AQ]at hr;split at hr
 case h_2=>exact hr.elim
 rename_i dd x ha;obtain rfl:args= #[dd,x]:=by apply yD;simpa using ha
 split at hr
 case h_2=>exact hr.elim
 rename_i t u htu;obtain rfl:ts= #[t,u]:=by apply yD;simpa using htu
 split at hr
 case h_2=>exact hr.elim
 rename_i e hst;obtain⟨d,hd,hm⟩:=A.T.qC t (by rw[hst];simp);rw[hst]at hm;simp only[qx]at hm;subst hm;split at hr
 exact hr.elim;rename_i hok;have hsh:M.C.T.sh e≠ .other:=by intro h;simp[qE,h]at hok
 obtain⟨ie,hie,uR,_⟩:=A.T.info e hsh;split at hr
 case h_2=>exact hr.elim
 rename_i i r es n lim pe;have eV:=A.L _ _ pe;split at hr
 exact hr.elim;rename_i P5 hx;have aq:=A.L _ _ hx;split at hr
 exact hr.elim;rename_i xs m hrows;split at hr
 case h_2=>exact hr.elim
 rename_i es' rs hh;split at hr
 case h_2=>exact hr.elim
 rename_i h1;have h1:=Zr h1;subst h1;split at hr
 case h_2=>exact hr.elim
 rename_i h2;have h2:=Zr h2;subst h2;obtain⟨⟨q1,q2,q3⟩,rfl,rfl,rfl⟩:=hr;obtain⟨news,N⟩:=Xi A aq hrows q1;obtain⟨u9,_⟩:=A.H.own.1 i _ hh;simp only[vT,Env.get]at u9;have hmin:Nat.min m n=m:=x7 q2;have j8:=N.first w rfl
 have fin:∀{w':World},(Builtin.copy_ #[t,u] ty #[ρ dd,ρ x]).run M.P w= .ok (.int .i64 m) w'->lN M.P ⟨dst, .call ⟨.builtin .copy, #[dd,x], #[t,u]⟩,ty,pos,af,gd⟩ ρ w (.int .i64 m) w':=by
  intro w' h;exact .inl (by simp[execOp,resolve,invoke,builtin,h])
 simp only[Den,Env.get]at eV;rcases eV with⟨p1,dH,p3⟩|⟨en,o,p1,dH,p3,p4,p5⟩
 .rcases u9 with⟨p6,rfl⟩|⟨cu,arr,T,fz,p6,_⟩
  case inr=>rw[p1]at p6;cases p6
  subst p3;have hm0:m=0:=by omega
  subst hm0;have hx0:xs=[]:=zM.1 q1;subst hx0;refine⟨_,w,K,fin ?_,zu,?_,rfl,fun h=>by cases h⟩;simp[dH,Builtin.copy_,Z6 hd,N.lenOf,Zt hie,uR,j8,goInt]
  .refine{pre:=A.H.pre,len:=A.H.len,fr:=A.H.fr,wm:=A.H.wm,own:=⟨fun j g hj=>?_,fun j k g g' m hj hk hne f f'=>?_⟩}
   .rw[Y1 i _ O j (by rw[hh];rfl)]at hj;split at hj
    .rename_i e;subst e;injection hj with hj;subst hj
     exact⟨Or.inl ⟨p1,by simp⟩,fun k f=>(vY.none (b:= .loc j) p1 f).elim⟩
    exact A.H.own.1 j g hj
   .have aux:∀(j:Nat) (g:Hp) (m:Nat),vY K w (.loc j) g m->u5 j (uI i (.rows (M.C.T.size e) (List.take r []++ []++List.drop (r+0) [])) O)=some g->u5 j O=some g:=by
     intro j g m f hj;rw[Y1 i _ O j (by rw[hh];rfl)]at hj;split at hj
     rename_i e;subst e;exact(vY.none (b:= .loc j) p1 f).elim;exact hj
    exact A.H.own.2 j k g g' m (aux j g m f hj) (aux k g' m f' hk) hne f f'
 .rcases u9 with⟨p6,_⟩|⟨cu,arr,T,fz,p6,p7,p8,p9⟩
  rw[p1]at p6;cases p6;rw[p1]at p6;injection p6 with p6;injection p6 with p6;subst p6
  obtain⟨ai,aj,QJ,jW⟩:=p8 trivial;rw[jW]at p9;obtain⟨r1,r2⟩:=F9 aj (r:=r) (xs:=xs) (by omega) (by omega) p9 N.den N.one;by_cases hm0:m=0
  .subst hm0;have hx0:xs=[]:=zM.1 q1;have hn0:news=[]:=by apply zM.1;rw[N.len];omega
   subst hx0 hn0;refine⟨_,w,K,fin ?_,zu,?_,rfl,fun h=>by cases h⟩;simp[dH,Builtin.copy_,Z6 hd,N.lenOf,Zt hie,uR,j8,goInt,storeCells]
   .refine A.H.kZ hh p1 (fun k _=>rfl) rfl rfl rfl rfl ?_;simp only[vT,Env.get];right
    exact⟨en,arr,T,fz,p1,p7,fun _=>⟨ai,aj,by simpa using QJ,jW⟩,by rw[jW];simpa using p9⟩
  .have ho:=p5 (.inl (by omega));rw[jW,zx]at ho;subst ho;have hst:=X2 (P:=M.P) en.g (r*M.C.T.size e) T fz news 0 arr w p7 (by simpa using r1) ai N.one;simp only[Nat.add_zero]at hst
   have jr:(arr.toList.take (r*M.C.T.size e)++news++arr.toList.drop (r*M.C.T.size e+news.length)).toArray.size=arr.size:=by
    simp only[ye,zh,zq,zD,Array.length_toList];omega
   refine⟨_,w.setRow en.g (arr.toList.take (r*M.C.T.size e)++news++arr.toList.drop (r*M.C.T.size e+news.length)).toArray,K,fin ?_,zu,A.H.kZ hh p1 (fun k hk=>setRow_other w en.g k _ hk) (setRow_size _ _ _) rfl rfl rfl ?_,rfl,fun h=>by cases h⟩;simp[dH,Builtin.copy_,Z6 hd,N.lenOf,Zt hie,uR,hmin,j8,hst,goInt]
   .simp only[vT,Env.get];right
    refine⟨en,_,T,fz,p1,setRow_heap w en.g arr _ T fz p7,fun _=>⟨by rw[jr];exact ai,by rw[jr];exact aj,?_,jW⟩,by rw[jW,<-q1];exact r2⟩;simp only[zh,zq,zD];omega
theorem Ip(A:At M K w O nx ρ lk)(args:Array Operand)(ts:Array TypeId)(hr:(w5 M.C lk O nx (.call ⟨.builtin .clear,args,ts⟩)).ok O nx v O' vW):Y7 M K w ⟨dst, .call ⟨.builtin .clear,args,ts⟩,ty,pos,af,gd⟩ ρ v O' vW:=by
 simp only[w5,Vt,AR]at hr;split at hr
 case h_2=>exact hr.elim
 rename_i dd ha;obtain rfl:args= #[dd]:=by apply yD;simpa using ha
 split at hr
 case h_2=>exact hr.elim
 rename_i t htu;obtain rfl:ts= #[t]:=by apply yD;simpa using htu
 split at hr
 case h_2=>exact hr.elim
 rename_i e hst;obtain⟨d,hd,hm⟩:=A.T.qC t (by rw[hst];simp);rw[hst]at hm;simp only[qx]at hm;subst hm;split at hr
 exact hr.elim;rename_i c cs hz;have hsh:M.C.T.sh e≠ .other:=A.T.lM e (by rw[hz];simp);obtain⟨ie,z,h1,h2,h3,h4,h5,_⟩:=A.T.zero e hsh (by rw[hz];simp);rw[hz]at h3 h5;have h3:=vV.mono (η':=K) xy h3;have hzl:z.cells.toList.length=M.C.T.size e:=by have:=ZU h3;rw[h5]at this;exact this
 split at hr
 case h_2=>exact hr.elim
 rename_i i r es n lim pe;have eV:=A.L _ _ pe;split at hr
 case h_2=>exact hr.elim
 rename_i es' rs hh;split at hr
 case h_2=>exact hr.elim
 rename_i g1;have g1:=Zr g1;subst g1;split at hr
 case h_2=>exact hr.elim
 rename_i g2;have g2:=Zr g2;subst g2;obtain⟨q3,rfl,rfl,rfl⟩:=hr;obtain⟨u9,_⟩:=A.H.own.1 i _ hh;simp only[vT,Env.get]at u9
 have fin:∀{w':World},(Builtin.clear_ #[t] ty #[ρ dd]).run M.P w= .ok (.tuple #[]) w'->lN M.P ⟨dst, .call ⟨.builtin .clear, #[dd], #[t]⟩,ty,pos,af,gd⟩ ρ w (.tuple #[]) w':=by
  intro w' h;exact .inl (by simp[execOp,resolve,invoke,builtin,h])
 have gb:∀K,Den K (.uz []) (.tuple #[]):=fun K=>by simp only[Den,vV];exact⟨[],rfl,rfl⟩
 simp only[Den,Env.get]at eV;rcases eV with⟨p1,dH,p3⟩|⟨en,o,p1,dH,p3,p4,p5⟩
 .rcases u9 with⟨p6,rfl⟩|⟨cu,arr,T,fz,p6,_⟩
  case inr=>rw[p1]at p6;cases p6
  subst p3;refine⟨_,w,K,fin ?_,zu,?_,gb _,fun h=>by cases h⟩;simp[dH,Builtin.clear_,Z6 hd]
  .refine{pre:=A.H.pre,len:=A.H.len,fr:=A.H.fr,wm:=A.H.wm,own:=⟨fun j g hj=>?_,fun j k g g' m hj hk hne f f'=>?_⟩}
   .rw[Y1 i _ O j (by rw[hh];rfl)]at hj;split at hj
    .rename_i e;subst e;injection hj with hj;subst hj
     exact⟨Or.inl ⟨p1,by simp⟩,fun k f=>(vY.none (b:= .loc j) p1 f).elim⟩
    exact A.H.own.1 j g hj
   .have aux:∀(j:Nat) (g:Hp) (m:Nat),vY K w (.loc j) g m->u5 j (uI i (.rows (M.C.T.size e) (List.take r []++List.replicate 0 (c::cs)++List.drop (r+0) [])) O)=some g->u5 j O=some g:=by
     intro j g m f hj;rw[Y1 i _ O j (by rw[hh];rfl)]at hj;split at hj
     rename_i e;subst e;exact(vY.none (b:= .loc j) p1 f).elim;exact hj
    exact A.H.own.2 j k g g' m (aux j g m f hj) (aux k g' m f' hk) hne f f'
 .rcases u9 with⟨p6,_⟩|⟨cu,arr,T,fz,p6,p7,p8,p9⟩
  rw[p1]at p6;cases p6;rw[p1]at p6;injection p6 with p6;injection p6 with p6;subst p6
  obtain⟨ai,aj,QJ,jW⟩:=p8 trivial;rw[jW]at p9;have nP:=EP h3 hzl n;have hone:=EC h4 n;have hxl:(List.replicate n (c::cs)).length=n:=yK;obtain⟨r1,r2⟩:=F9 aj (r:=r) (xs:=List.replicate n (c::cs)) (by omega) (by omega) p9 nP hone;by_cases hn0:n=0
  .subst hn0;refine⟨_,w,K,fin ?_,zu,?_,gb _,fun h=>by cases h⟩;simp[dH,Builtin.clear_,Z6 hd]
   .refine A.H.kZ hh p1 (fun k _=>rfl) rfl rfl rfl rfl ?_;simp only[vT,Env.get];right
    exact⟨en,arr,T,fz,p1,p7,fun _=>⟨ai,aj,by simpa using QJ,jW⟩,by rw[jW];simpa using p9⟩
  .have ho:=p5 (.inl (by omega));rw[jW,zx]at ho;subst ho;have hst:=X2 (P:=M.P) en.g (r*M.C.T.size e) T fz (XP z.cells.toList n) 0 arr w p7 (by simpa using r1) ai hone;simp only[Nat.add_zero]at hst
   have ET:(Builtin.zeroCells z.cells n).toList=XP z.cells.toList n:=by
    unfold Builtin.zeroCells;exact U9 z.cells n _ (by simp[vi])
   have jr:(arr.toList.take (r*M.C.T.size e)++XP z.cells.toList n++arr.toList.drop (r*M.C.T.size e+(XP z.cells.toList n).length)).toArray.size=arr.size:=by
    simp only[ye,zh,zq,zD,Array.length_toList];omega
   refine⟨_,w.setRow en.g (arr.toList.take (r*M.C.T.size e)++XP z.cells.toList n++arr.toList.drop (r*M.C.T.size e+(XP z.cells.toList n).length)).toArray,K,fin ?_,zu,A.H.kZ hh p1 (fun k hk=>setRow_other w en.g k _ hk) (setRow_size _ _ _) rfl rfl rfl ?_,gb _,fun h=>by cases h⟩
   .obtain⟨n,rfl⟩:∃m,n=m+1:=⟨n-1,by omega⟩;simp[dH,Builtin.clear_,Z6 hd,XT h1 h2,ET,hst]
   .simp only[vT,Env.get];right
    refine⟨en,_,T,fz,p1,setRow_heap w en.g arr _ T fz p7,fun _=>⟨by rw[jr];exact ai,by rw[jr];exact aj,?_,jW⟩,by rw[jW];rw[hxl]at r2;exact r2⟩;simp only[zh,zq,zD,yK];omega
theorem D2(A:At M K w O nx ρ lk)(o:Oper)(hr:(w5 M.C lk O nx o.op).ok O nx v O' vW):Y7 M K w o ρ v O' vW:=by
 obtain⟨dst,op,ty,pos,af,gd⟩:=o;cases op with
 |move x=>exact SR A x hr
 |assign x=>exact SU A x hr
 |pick c a b=>exact SX A c a b hr
 |alloc e=>exact Tj A e hr
 |box e x=>exact Tk A e x hr
 |build t ps=>exact Tq A t ps hr
 |buildSlice t l ps=>exact Tr A t l ps hr
 |load t x=>exact I2 A t x hr
 |store t x y=>exact Ie A t x y hr
 |nilCheck x=>exact T0 A x hr
 |binOp op t x y u=>exact Tc A op t u x y hr
 |unOp op t x=>exact T1 A op t x hr
 |convert s d x=>exact Im A s d x hr
 |makeInterface t x=>exact T2 A t x hr
 |makeFunc f a b=>exact T3 A f a b hr
 |makeSlice t l c=>exact Tv A t l c hr
 |slice t x lo hi mx=>exact Td A t x lo hi mx hr
 |fieldAddr s x f=>exact T8 A s x f hr
 |field t x f=>exact SZ A t x f hr
 |indexAddr t x i=>exact T7 A t x i hr
 |index t x i=>exact T6 A t x i hr
 |makeMap t r=>exact TX A t r hr
 |lookup t x i ok=>exact I1 A t x i ok hr
 |mapUpdate t m k x=>exact P9 A t m k x hr
 |insert t m k x=>exact I6 A t m k x hr
 |mapEntry t m k=>exact I8 A t m k hr
 |entryStore t m k x=>exact Ih A t m k x hr
 |range t x=>exact Ik A t x hr
 |next x b=>exact Il A x b hr
 |extract x i=>exact SY A x i hr
 |typeAssert x t u ok=>exact Ta A x t u ok hr
 |call c=>
  obtain⟨callee,args,ts⟩:=c;cases callee with
  |builtin b=>
   cases b with
   |len=>exact Te A args ts hr
   |append=>exact TT A args ts hr
   |cap=>exact Tf A args ts hr
   |min=>exact Ii A args ts hr
   |max=>exact Ij A args ts hr
   |copy=>exact Io A args ts hr
   |clear=>exact Ip A args ts hr
   |_=>exact hr.elim
  |_=>exact hr.elim
 |_=>exact hr.elim
end
end Go.Sx
namespace Go.Sx
open Go
section
variable {M:Mx}{J:Env}{w:World}{O:vX}{nx:Nat}
theorem kN.mono{J η':Env}{a:Act}{fr:Fr}(h:J<+:η')(k:kN J a fr):kN η' a fr:=fun t sv ht=>(k t sv ht).mono h
theorem Pg{a:Act}{d:Nat}{u:Value}(h:d<a.tmps.size):(a.put (some d) u).tmps.getD d undef=u:=by
 simp[Act.put,Array.getD,h]
theorem D3{a:Act}{d t:Nat}{u:Value}(h:t≠d):(a.put (some d) u).tmps.getD t undef=a.tmps.getD t undef:=by
 simp only[Act.put,zZ];rw[yT,z7 (yY h)]
theorem D4{a:Act}{d:Option Tmp}{u:Value}:(a.put d u).tmps.size=a.tmps.size:=by
 cases d<;>simp[Act.put]
theorem put_defers{a:Act}{d:Option Tmp}{u:Value}:(a.put d u).defers=a.defers:=by
 cases d<;>simp[Act.put]
theorem kN.put{a:Act}{fr:Fr}{d:Nat}{u:Value}{v:SV}(k:kN J a fr)(hd:d<a.tmps.size)(hv:Den J v u):kN J (a.put (some d) u) ((d,v)::fr):=by
 intro t sv ht;rw[Z8]at ht;split at ht
 .rename_i e;subst e;injection ht with ht;subst ht
  rw[Pg hd];exact hv
 rename_i e;rw[D3 e];exact k t sv ht
theorem kN.know{a:Act}{fr:Fr}{d:Nat}{v:SV}(k:kN J a fr)(hv:Den J v (a.tmps.getD d undef)):kN J a ((d,v)::fr):=by
 intro t sv ht;rw[Z8]at ht;split at ht
 rename_i e;subst e;injection ht with ht;subst ht;exact hv
 exact k t sv ht
theorem D5{N:Nat}{d:Nat}(h:JG N (some d)=true):d<N:=by
 simpa[JG]using h
def D6:SV->Bool
 | .jJ _=>false
 |_=>true
theorem qw.other{J:Env}{ds:List Deferred}{v:SV}(h:D6 v=true):qw J ds (some v)<->ds=[]:=by
 cases v<;>first|exact xF|cases h
theorem u7.know{fr:Fr}{a:Act}(K:u7 M J fr O nx a w){s:Nat}{u v:SV}(hs:u5 s fr=some u)(hu:D6 u=true)(hv:D6 v=true)(hd:Den J v (a.tmps.getD s undef)):u7 M J ((s,v)::fr) O nx a w:=by
 refine⟨K.heap,K.size,K.fK,?_,K.ro,K.frame.know hd⟩;have h:=K.defers;rw[Z8];split
 .rename_i e;rw[e,hs,qw.other hu]at h;rw[qw.other hv];exact h
 exact h
theorem Ph{N d:Nat}{v:SV}{fr:Fr}(hd:JG N (some d)=true)(hN:N<=DS):u5 DS ((d,v)::fr)=u5 DS fr:=by
 have h1:=D5 hd;have h2:DS≠d:=fun e=>Nat.lt_irrefl _ (yH (e▸h1) hN);rw[Z8,z7 h2]
theorem Ub{J η':Env}(hp:J<+:η')(h:∀l j,M.C.ro=some (l,j)->∃e,J[j]?=some (some e)/\e.g=l):∀l j,M.C.ro=some (l,j)->∃e,η'[j]?=some (some e)/\e.g=l:=fun l j hj=>
 let⟨e,h1,h2⟩:=h l j hj;⟨e,Env.uc (b:= .loc j) hp h1,h2⟩
theorem u7.put{fr:Fr}{a:Act}(K:u7 M J fr O nx a w){η':Env}{O':vX}{vW:Nat}{w':World}{d:Option Tmp}{u:Value}{v:SV}(hd:JG M.C.N d=true)(hp:J<+:η')(hH:vR M η' w' O' vW)(hv:Den η' v u){Kp:Fr->Prop}(hk:wz d v fr Kp):
 ∃fr',Kp fr'/\u7 M η' fr' O' vW (a.put d u) w':=by
 cases d with
 |none=>exact⟨fr,hk,hH,by rw[D4];exact K.size,K.fK,by rw[put_defers];exact K.defers.mono hp,Ub hp K.ro,K.frame.mono hp⟩
 |some d=>
  refine⟨(d,v)::fr,hk,hH,by rw[D4];exact K.size,K.fK,by rw[put_defers,Ph hd K.fK];exact K.defers.mono hp,Ub hp K.ro,(K.frame.mono hp).put ?_ hv⟩;rw[K.size];exact D5 hd
theorem Iq{P:Program}{o:Oper}{ρ:Operand->Value}{w w':World}{u:Value}(h:lN P o ρ w u w'):∀c,o.op≠ .defer c:=by
 intro c hc
 have key:∀(n:Next) (w':World),(∀d,n≠ .defer d)->(execOp ρ o).run P w≠ .ok n w':=by
  intro n w' hn he;simp only[execOp,hc,Sem.run_bind]at he;cases hr:(resolve ρ c o.type).run P w with
  |ok d w1=>
   rw[hr]at he;simp only[Result.andThen,Sem.run_pure]at he;injection he with he _;exact hn d he.symm
  |halt x w1=>rw[hr]at he;simp only[Result.andThen]at he;cases he
 rcases h with h|⟨h,_⟩
 exact key _ _ (fun d e=>by cases e) h;exact key _ _ (fun d e=>by cases e) h
theorem D7{ro:Option Nat}{ρ:Operand->Value}{o:Oper}{c:Call}(h:o.op= .call c):o.semAt ro ρ=execOp ρ o:=Oper.semAt_eq _ _ _ fun c' hc=>by rw[h]at hc;cases hc
theorem D8{P:Program}{o:Oper}{a:Act}{w w':World}{u:Value}{next:Act->World->Prop}{Q:Exit->Act->World->Prop}{F:Fence}(hF:∀f,F.fn f)(h:lN P o a.eval w u w')(hn:next (a.put o.dst u) w'):o.wpIn F 0 P a w next Q:=by
 refine⟨fun f _=>hF f,?_⟩;rw[Oper.semAt_eq _ _ _ (Iq h)];rcases h with h|⟨h,rfl⟩
 rw[h];exact hn;rw[h];exact hn
theorem D9{lk:Operand->Option SV}{ρ:Operand->Value}{xs:List Operand}{eD:List SV}(hl:∀x sv,lk x=some sv->Den J sv (ρ x))(h:qi lk xs=some eD):vV J eD (xs.map ρ):=Er hl h
theorem Pj{o:Oper}{a:Act}{c:Call}{lk:Operand->Option SV}{f:FuncId}{args:List SV}{K:SV->vX->Nat->Prop}{next:Act->World->Prop}{Q:Exit->Act->World->Prop}(ho:o.op= .call c)(H:vR M J w O nx)(hl:∀x sv,lk x=some sv->Den J sv (a.eval x))
 (hc:U8 lk c=some (f,args)) (hC:CALL M f args O nx K) (hn:∀v r O' vW η' w',J<+:η'->vR M η' w' O' vW->Den η' r v->K r O' vW->next (a.put o.dst v) w'):o.wpIn M.uo 0 M.P a w next Q:=by
 unfold U8 at hc;split at hc
 case h_2=>cases hc
 rename_i ff bH;split at hc
 case h_2=>cases hc
 rename_i f' first cap args' hf hargs;simp only[zi,yF]at hc;obtain⟨rfl,rfl⟩:=hc;have pG:=hl _ _ hf;simp only[Den]at pG;obtain⟨us,vs,sC,h1,h2⟩:=pG;have hall:=YX (YX h1 (D9 hl hargs)) h2
 have jN:(execOp a.eval o).run M.P w=(callFunc f' ⟨us++c.args.toList.map a.eval++vs⟩).run M.P w:=by
  have:(⟨us⟩++c.args.map a.eval++⟨vs⟩:Array Value)=⟨us++c.args.toList.map a.eval++vs⟩:=by apply yD;simp
  rw[<-this];simp[execOp,ho,resolve,bH,sC,Deferred.ofValue,invoke]
 refine⟨fun f _=>M.all f,?_⟩;rw[D7 ho,jN];rcases hC.out J w _ H hall with⟨g,hg,jt⟩|⟨v,w',hv,r,O',vW,η',h3,h4,h5,h6⟩
 .rw[hg];refine⟨(fun h=>by cases h),?_⟩;have jt:CallsIn M.uo (0-1) M.P g _ w _:=callsIn_wide.2 jt;refine jt.mono fun e w' he=>?_;obtain⟨v,rfl,r,O',vW,η',h3,h4,h5,h6⟩:=he;exact hn v r O' vW η' w' h3 h4 h5 h6
 .rw[hv];exact hn v r O' vW η' w' h3 h4 h5 h6
theorem Ir{o:Oper}{a:Act}{c:Call}{lk:Operand->Option SV}{j:Nat}{args:List SV}{K:SV->vX->Nat->Prop}{next:Act->World->Prop}{Q:Exit->Act->World->Prop}(ho:o.op= .call c)(H:vR M J w O nx)(hl:∀x sv,lk x=some sv->Den J sv (a.eval x))
 (hc:Ed lk c=some (j,args)) (hC:eU M j args O nx K) (hn:∀v r O' vW η' w',J<+:η'->vR M η' w' O' vW->Den η' r v->K r O' vW->next (a.put o.dst v) w'):o.wpIn M.uo 0 M.P a w next Q:=by
 unfold Ed at hc;split at hc
 case h_2=>cases hc
 rename_i ff bH;split at hc
 case h_2=>cases hc
 rename_i j' args' hf hargs;simp only[zi,yF]at hc;obtain⟨rfl,rfl⟩:=hc;have pG:=hl _ _ hf;simp only[Den]at pG;obtain⟨e,he,sC⟩:=pG;have hall:=D9 hl hargs;obtain⟨fn,tmps,eo,body,hy,hr⟩:=hC.out J w _ e H hall he
 have jN:(execOp a.eval o).run M.P w=(Instr.yield e.g ⟨c.args.toList.map a.eval⟩).run M.P w:=by
  have:(#[]++c.args.map a.eval:Array Value)=⟨c.args.toList.map a.eval⟩:=by apply yD;simp
  rw[<-this];simp[execOp,ho,resolve,bH,sC,Deferred.ofValue,invoke]
 refine⟨fun f _=>M.all f,?_⟩;rw[D7 ho,jN,hy];refine⟨(fun h=>by cases h),?_⟩;have hr:RoundIn M.uo (0-1) M.P e.g fn tmps eo body w _:=hr;refine hr.mono fun en w' he=>?_;obtain⟨v,rfl,r,O',vW,η',h3,h4,h5,h6⟩:=he;exact hn v r O' vW η' w' h3 h4 h5 h6
theorem Vx(hT:uC M.P M.C.T){fr:Fr}{a:Act}(K:u7 M J fr O nx a w){o:Oper}{lk:Operand->Option SV}(hl:∀x sv,lk x=some sv->Den J sv (a.eval x)){K':SV->vX->Nat->Prop}(h:oQ M o lk O nx K'){next:Act->World->Prop}{Q:Exit->Act->World->Prop}
 (hn:∀u v O' vW η' w',JG M.C.N o.dst=true->J<+:η'->vR M η' w' O' vW->Den η' v u->K' v O' vW->next (a.put o.dst u) w'):o.wpIn M.uo 0 M.P a w next Q:=by
 unfold oQ at h;split at h
 exact h.out.elim;rename_i hd
 have main:∀{op:Op},o.op=op->(w5 M.C lk O nx op).go O nx K'->o.wpIn M.uo 0 M.P a w next Q:=by
  intro op ho h;subst ho;obtain⟨v,O',vW,h1,h2⟩:=ux.go_ok h;obtain⟨u,w',η',h3,h4,h5,h6,_⟩:=D2 ⟨K.heap,hT,hl⟩ o h1;exact D8 M.all h3 (hn u v O' vW η' w' hd h4 h5 h6 h2)
 split at h
 .rename_i c ho;split at h
  exact main ho h
  .split at h
   .rename_i f args hc;rw[J6]at h;refine Pj ho K.heap hl hc h fun v r O' vW η' w' h1 h2 h3 h4=>?_;rw[Yv,VU]at h4;exact hn v r O' vW η' w' hd h1 h2 h3 h4
   .split at h
    .rename_i j args hc;rw[J6]at h;refine Ir ho K.heap hl hc h fun v r O' vW η' w' h1 h2 h3 h4=>?_;rw[Yv,VU]at h4;exact hn v r O' vW η' w' hd h1 h2 h3 h4
    exact h.out.elim
 exact main rfl h
theorem Pk:∀{kp fr:Fr},Eb kp fr->∀{t:Nat} {v:SV},u5 t kp=some v->u5 t fr=some v
 | [],fr,_,t,v,h=>by simp[u5]at h
 |(d,u)::r,fr,hk,t,v,h=>by
  rw[Z8]at h;split at h
  rename_i e;subst e;injection h with h;subst h;exact hk.1
  exact Pk hk.2 h
theorem u7.kept{kp fr:Fr}{a:Act}(hm:u7 M J fr O nx a w)(hk:Ec kp fr){η':Env}{w':World}{O':vX}{vW:Nat}(hp:J<+:η')(H:vR M η' w' O' vW):u7 M η' kp O' vW a w':=
 ⟨H,hm.size,hm.fK,by rw[<-hk.1];exact hm.defers.mono hp,Ub hp hm.ro,fun t v ht=>(hm.frame t v (Pk hk.2 ht)).mono hp⟩
theorem Is{o:Oper}{a:Act}{c:Call}{lk:Operand->Option SV}{f:FuncId}{args:List SV}{KP K:SV->vX->Nat->Prop}{next:Act->World->Prop}{Q:Exit->Act->World->Prop}(ho:o.op= .call c)(H:vR M J w O nx)(hl:∀x sv,lk x=some sv->Den J sv (a.eval x))
 (hc:U8 lk c=some (f,args)) (hC:jf M f args O nx KP K) (hn:∀v r O' vW η' w',J<+:η'->vR M η' w' O' vW->Den η' r v->K r O' vW->next (a.put o.dst v) w')
 (hp:∀v r O' vW η' w',J<+:η'->vR M η' w' O' vW->Den η' r v->KP r O' vW->Q (.panic [{v,recovered:=false}]) a w'):o.wpIn M.uo 0 M.P a w next Q:=by
 unfold U8 at hc;split at hc
 case h_2=>cases hc
 rename_i ff bH;split at hc
 case h_2=>cases hc
 rename_i f' first cap args' hf hargs;simp only[zi,yF]at hc;obtain⟨rfl,rfl⟩:=hc;have pG:=hl _ _ hf;simp only[Den]at pG;obtain⟨us,vs,sC,h1,h2⟩:=pG;have hall:=YX (YX h1 (D9 hl hargs)) h2
 have jN:(execOp a.eval o).run M.P w=(callFunc f' ⟨us++c.args.toList.map a.eval++vs⟩).run M.P w:=by
  have:(⟨us⟩++c.args.map a.eval++⟨vs⟩:Array Value)=⟨us++c.args.toList.map a.eval++vs⟩:=by apply yD;simp
  rw[<-this];simp[execOp,ho,resolve,bH,sC,Deferred.ofValue,invoke]
 refine⟨fun f _=>M.all f,?_⟩;rw[D7 ho,jN];rcases hC.out J w _ H hall with⟨g,hg,jt⟩|⟨v,w',hv,r,O',vW,η',h3,h4,h5,h6⟩
 .rw[hg];refine⟨(fun h=>by cases h),?_⟩;have jt:CallsIn M.uo (0-1) M.P g _ w _:=callsIn_wide.2 jt;refine jt.mono fun e w' he=>?_;rcases he with⟨v,rfl,r,O',vW,η',h3,h4,h5,h6⟩|⟨v,rfl,r,O',vW,η',h3,h4,h5,h6⟩
  exact hn v r O' vW η' w' h3 h4 h5 h6;exact hp v r O' vW η' w' h3 h4 h5 h6
 .rw[hv];exact hn v r O' vW η' w' h3 h4 h5 h6
theorem It(hT:uC M.P M.C.T){fr:Fr}{a:Act}(hm:u7 M J fr O nx a w){o:Oper}{K':Fr->SV->vX->Nat->Prop}(h:lK M o fr O nx K'){next:Act->World->Prop}{Q:Exit->Act->World->Prop}
 (hn:∀fr' u v O' vW η' a' w',JG M.C.N o.dst=true->u7 M η' fr' O' vW a' w'->Den η' v u->K' fr' v O' vW->next (a'.put o.dst u) w') (hp:∀ch w',GO M ch a w'->Q (.panic ch) a w'):o.wpIn M.uo 0 M.P a w next Q:=by
 have hl:∀x sv,V3 fr x=some sv->Den J sv (a.eval x):=fun x sv hx=>Yw hm.frame hx
 have hn0:∀u v O' vW η' w',JG M.C.N o.dst=true->J<+:η'->vR M η' w' O' vW->Den η' v u->K' fr v O' vW->next (a.put o.dst u) w':=fun u v O' vW η' w' hd h1 h2 h3 h4=>
  hn fr u v O' vW η' a w' hd ⟨h2,hm.size,hm.fK,hm.defers.mono h1,Ub h1 hm.ro,hm.frame.mono h1⟩ h3 h4
 unfold lK at h;split at h
 exact Vx hT hm hl h hn0;rename_i kp X hpx;split at h
 exact h.out.elim;rename_i hd;split at h
 .rename_i x ho;split at h
  case h_2=>exact h.out.elim
  rename_i t u hx;rw[Yv]at h;have gb:=hl _ _ hx;have QO:=gb;simp only[Den]at gb;obtain⟨y,hv,hy⟩:=gb;refine⟨fun f _=>M.all f,?_⟩;rw[Oper.semAt_eq _ _ _ (fun c' hc=>by rw[ho]at hc;cases hc)]
  have jN:(execOp a.eval o).run M.P w= .halt (.panic (a.eval x)) w:=by
   rw[hv];simp[execOp,ho,hv,Instr.panic]
  rw[jN];exact hp _ _ ⟨kp,X,hpx,J,O,nx,_,_,rfl,hm.kept h.1 zu hm.heap,QO,h.2⟩
 .rename_i c ho;unfold Oa at h;split at h
  exact h.out.elim;rename_i hro;split at h
  case h_2=>exact h.out.elim
  rename_i f bH hargs;split at h
  case h_2=>exact h.out.elim
  rename_i g cap hf;split at h
  case h_2=>exact h.out.elim
  rename_i hds;have pG:=hl _ _ hf;simp only[Den]at pG;obtain⟨us,vs,sC,h1,h2⟩:=pG;simp only[vV]at h1;subst h1;have sD:c.args= #[]:=by apply yD;simpa using hargs
  have hr:M.uo.round=none:=by simp[Mx.uo,hro]
  refine⟨fun f _=>M.all f,?_⟩;rw[hr,Oper.semAt_none]
  have jN:(execOp a.eval o).run M.P w= .ok (.defer {target:= .fn (.func g) ⟨vs⟩,args:= #[]}) w:=by
   simp[execOp,ho,resolve,bH,sD,sC,Deferred.ofValue]
  rw[jN];refine hn _ undef YS O nx J {a with defers:={target:= .fn (.func g) ⟨vs⟩,args:= #[]}::a.defers} w hd ⟨hm.heap,hm.size,hm.fK,?_,hm.ro,fun t v ht=>?_⟩ (V8 J) h
  .rw[Z8,zf rfl];have hde:a.defers=[]:=by have:=hm.defers;rw[hds]at this;exact this
   show kW J _ _
   simp only[kW];exact⟨[],vs,[],rfl,h2,by rw[hde],rfl⟩
  .rw[Z8]at ht;split at ht
   .rename_i e;injection ht with ht;subst ht;simp only[Den]
   exact hm.frame t v ht
 .rename_i c ho;split at h
  exact Vx hT hm hl h hn0
  .split at h
   .rename_i f args hc;rw[J6]at h;refine Is ho hm.heap hl hc h (fun v r O' vW η' w' h1 h2 h3 h4=>?_) fun v r O' vW η' w' h1 h2 h3 h4=>?_
    .rw[Yv,VU]at h4;exact hn0 v r O' vW η' w' hd h1 h2 h3 h4
    exact hp _ _ ⟨kp,X,hpx,η',O',vW,v,r,rfl,hm.kept h4.1 h1 h2,h3,h4.2⟩
   exact Vx hT hm hl h hn0
 exact Vx hT hm hl h hn0
theorem VY{ops:Array Oper}{a:Act}{j s:Nat}(h:UL ops.toList j=some s){b:Bool}(hb:a.tmps.getD s undef= .bool b):yielded ops a.tmps j=some b:=by
 unfold UL at h;rw[VL]at h;unfold yielded;cases ho:ops.toList[j]? with
 |none=>rw[ho]at h;cases h
 |some o=>
  rw[ho]at h;simp only at h;have ho':ops[j]?=some o:=by simpa using ho
  have hs:s<a.tmps.size:=by
   rcases zY s a.tmps.size with hlt|hge
   exact hlt;rw[zZ,xM hge]at hb;cases hb
  rw[zZ,yL hs]at hb;simp only[Option.getD_some]at hb;simp[ho',h,yL hs,hb]
theorem Uc{ops:Array Oper}{a:Act}{j s:Nat}(h:UL ops.toList j=some s){want:Bool}(hb:a.tmps.getD s undef≠ .bool want):yielded ops a.tmps j≠some want:=by
 unfold UL at h;rw[VL]at h;unfold yielded;cases ho:ops.toList[j]? with
 |none=>rw[ho]at h;cases h
 |some o=>
  rw[ho]at h;simp only at h;have ho':ops[j]?=some o:=by simpa using ho
  simp only[ho',Option.bind_some,h];intro hy;split at hy
  .rename_i b hq;injection hy with hy;subst hy;apply hb;rw[zZ,hq];rfl
  cases hy
theorem Xy{P:Program}{ops:Array Oper}{Q:Exit->Act->World->Prop}{a:Act}{w:World}{rest:List Oper}{o:Oper}(hw:Region.wanted o (yielded ops a.tmps)=true){F:Fence}(h:o.wpIn F 0 P a w (wpListIn F 0 P ops Q rest) Q):wpListIn F 0 P ops Q (o::rest) a w:=by
 unfold wpListIn;rw[zf hw];exact h
theorem XF{P:Program}{ops:Array Oper}{Q:Exit->Act->World->Prop}{a:Act}{w:World}{rest:List Oper}{o:Oper}(hw:¬Region.wanted o (yielded ops a.tmps)=true){F:Fence}(hF:∀f,F.fn f)(h:wpListIn F 0 P ops Q rest (a.put o.dst undef) w):wpListIn F 0 P ops Q (o::rest) a w:=by
 unfold wpListIn;rw[z7 hw];exact⟨fun f _=>hF f,h⟩
theorem Ud{o:Oper}{y:Nat->Option Bool}(h:o.guard=none):Region.wanted o y=true:=by simp[Region.wanted,h]
theorem Zx{o:Oper}{y:Nat->Option Bool}{j:Nat}{b:Bool}(h:o.guard=some (j,b)):Region.wanted o y=true<->y j=some b:=by simp[Region.wanted,h]
theorem Da(hT:uC M.P M.C.T){ops:Array Oper}{Q:Exit->Act->World->Prop}:∀(rest:List Oper) {fr:Fr} {O:vX} {nx:Nat} {K:Fr->vX->Nat->Prop},aO M ops.toList rest fr O nx K->
 ∀{J:Env} {a:Act} {w:World},u7 M J fr O nx a w->(∀J fr O nx a w,u7 M J fr O nx a w->K fr O nx->Q .normal a w)->(∀ch a w,GO M ch a w->Q (.panic ch) a w)->wpListIn M.uo 0 M.P ops Q rest a w
 | [],fr,O,nx,K,h,J,a,w,hm,hq,hp=>hq J fr O nx a w hm h
 |o::rest,fr,O,nx,K,h,J,a,w,hm,hq,hpa=>by
  replace h:Ef M ops.toList o rest (aO M ops.toList rest) fr O nx K:=h
  unfold Ef at h
  have step:∀{fr':Fr},u7 M J fr' O nx a w->lK M o fr' O nx (fun fr v O nx=>wz o.dst v fr fun fr=>aO M ops.toList rest fr O nx K)->o.wpIn M.uo 0 M.P a w (wpListIn M.uo 0 M.P ops Q rest) Q:=by
   intro fr' hm' h;refine It hT hm' h (fun fQ u v O' vW η' a' w' hd hM hv hk=>?_) fun ch w' hr=>hpa ch a w' hr;obtain⟨fQ,h1,h2⟩:=hM.put hd zu hM.heap hv hk;exact Da hT rest h1 h2 hq hpa
  have skip:∀{fr':Fr},u7 M J fr' O nx a w->(match JG M.C.N o.dst with|true=>wz o.dst YS fr' fun fr=>aO M ops.toList rest fr O nx K|false=>uF "slot")->wpListIn M.uo 0 M.P ops Q rest (a.put o.dst undef) w:=by
   intro fr' hm' h;split at h
   .rename_i hd;obtain⟨fQ,h1,h2⟩:=hm'.put hd zu hm'.heap (V8 J) h;exact Da hT rest h1 h2 hq hpa
   exact h.out.elim
  split at h
  .rename_i hg;exact Xy (Ud hg) (step hm h)
  .rename_i j want hg;split at h
   exact h.out.elim;rename_i s hs;split at h
   .rename_i b hb;have qg:=X3 (hm.frame s _ hb);have hy:=VY hs qg;cases b with
    |true=>
     have h:=h.t rfl;have hm':u7 M J ((s, .bool true)::fr) O nx a w:=hm.know hb rfl rfl qg;cases want with
     |true=>exact Xy ((Zx hg).2 hy) (step hm' h)
     |false=>exact XF (hF:=M.all) (fun hw=>by rw[Zx hg,hy]at hw;cases hw) (skip hm' h)
    |false=>
     have h:=h.f rfl;have hm':u7 M J ((s, .bool false)::fr) O nx a w:=hm.know hb rfl rfl qg;cases want with
     |false=>exact Xy ((Zx hg).2 hy) (step hm' h)
     |true=>exact XF (hF:=M.all) (fun hw=>by rw[Zx hg,hy]at hw;cases hw) (skip hm' h)
   .rename_i hb;have qg:=hm.frame s _ hb;simp only[Den,vV]at qg;obtain⟨vs,qg,rfl⟩:=qg;exact XF (hF:=M.all) (fun hw=>by rw[Zx hg]at hw;exact Uc hs (by rw[qg];simp) hw) (skip hm h)
   .rename_i n hb;have qg:=hm.frame s _ hb;simp only[Den]at qg;obtain⟨b,qg,hn0⟩:=qg;have hy:=VY hs qg;cases b with
    |true=>
     have h:=h.t (hn0 rfl);have hm':u7 M J ((s, .bool true)::fr) O nx a w:=hm.know hb rfl rfl qg;cases want with
     |true=>exact Xy ((Zx hg).2 hy) (step hm' h)
     |false=>exact XF (hF:=M.all) (fun hw=>by rw[Zx hg,hy]at hw;cases hw) (skip hm' h)
    |false=>
     have h:=h.f;have hm':u7 M J ((s, .bool false)::fr) O nx a w:=hm.know hb rfl rfl qg;cases want with
     |false=>exact Xy ((Zx hg).2 hy) (step hm' h)
     |true=>exact XF (hF:=M.all) (fun hw=>by rw[Zx hg,hy]at hw;cases hw) (skip hm' h)
   exact h.out.elim
end
section
variable {M:Mx}{J:Env}{w:World}{O:vX}{nx:Nat}
theorem uW.sub{a:Act}:∀{p q:List (Nat×Bool)},GQ p q=true->uW a q->uW a p
 | [],q,_,_=>fun x hx=>by cases hx
 |(s,b)::p,q,h,hq=>by
  simp only[GQ,zj,xH]at h;obtain⟨⟨x,hx,h1⟩,h2⟩:=h;have h3:=Zr h1.1;have h4:x.2=b:=by simpa using h1.2
  intro y hy;rcases zL.1 hy with rfl|hy
  have:=hq x hx;rw[h3,h4]at this;exact this;exact uW.sub h2 hq y hy
theorem UQ{a:Act}{fr:Fr}{gs:Gs}{path:List (Nat×Bool)}(hf:kN J a fr)(hg:cq J a gs)(hp:uW a path){x:Operand}{sv:SV}(hx:mm fr gs path x=some sv):Den J sv (a.eval x):=by
 cases x with
 |tmp t=>
  simp only[mm]at hx;split at hx
  .rename_i q v hq;split at hx
   .rename_i hs;injection hx with hx;subst hx;exact(hg t q v hq).1 (uW.sub hs hp)
   cases hx
  exact hf t sv hx
 |const v=>exact Yw hf hx
 |global g=>exact Yw hf hx
 |func f=>exact Yw hf hx
theorem Pm{a:Act}{fr:Fr}{gs:Gs}(hf:kN J a fr)(hg:cq J a gs):∀{path:List (Nat×Bool)} {g:Bool},Qw fr gs path=some g->uW a path->g=true
 | [],g,h,_=>by simp only[Qw,zi]at h;exact h.symm
 |(s,want)::r,g,h,hp=>by
  have bg:uW a r:=fun x hx=>hp x (zK _ hx);simp only[Qw]at h;split at h
  case h_2=>cases h
  rename_i b hb;have qg:=X3 (UQ hf hg bg hb);have qY:=hp (s,want) (zJ ..);simp only[Act.eval]at qg;rw[qg]at qY;injection qY with qY;simp only at qY;split at h
  case h_2=>cases h
  rename_i x hx;have Iu:=Pm hf hg hx bg;subst Iu qY;cases b<;>simp at h<;>exact h
theorem Iv{a:Act}{gs:Gs}(hg:cq J a gs){s:Nat}{want:Bool}(h:a.tmps.getD s undef= .bool want):uW a (mq gs s want):=by
 intro x hx;unfold mq at hx;rcases zL.1 hx with rfl|hx
 exact h
 .split at hx
  .rename_i q v hq;by_cases hp:uW a q
   exact hp x hx
   .have:=(hg s q v hq).2 hp;rw[h]at this;cases this
  cases hx
theorem uW.put{a:Act}{d:Nat}{u:Value}{p:List (Nat×Bool)}(h:Qx d p=true):uW (a.put (some d) u) p<->uW a p:=by
 unfold Qx at h
 have key:∀x∈p,(a.put (some d) u).tmps.getD x.1 undef=a.tmps.getD x.1 undef:=by
  intro x hx;have:=(zT.1 h) x hx;have hne:x.1≠d:=Jv (by simpa using this);exact D3 hne
 exact⟨fun k x hx=>by rw[<-key x hx];exact k x hx,fun k x hx=>by rw[key x hx];exact k x hx⟩
theorem UR{Z:Type}:∀{l:List (Nat×Z)} {t:Nat} {v:Z},u5 t l=some v->(t,v)∈l
 | [],t,v,h=>by simp[u5]at h
 |(d,u)::r,t,v,h=>by
  rw[Z8]at h;split at h
  rename_i e;subst e;injection h with h;subst h;exact zJ ..
  exact zK _ (UR h)
theorem cq.put{a:Act}{gs:Gs}(hg:cq J a gs){η':Env}(hp:J<+:η'){d:Option Tmp}{u:Value}(hd:Oh d gs=true):cq η' (a.put d u) gs:=by
 cases d with
 |none=>exact fun t p sv h=>⟨fun k=>((hg t p sv h).1 k).mono hp,(hg t p sv h).2⟩
 |some d=>
  intro t p sv h;have hm:=UR h;have:=(zT.1 hd) _ hm;simp only[zj]at this;have hne:t≠d:=Jv (by simpa using this.1);have hn:Qx d p=true:=this.2;rw[uW.put hn,D3 hne];exact⟨fun k=>((hg t p sv h).1 k).mono hp,(hg t p sv h).2⟩
theorem ux.pH{g:Prop}:∀{r:ux} {K:SV->Prop},r.gg g K->∃v,(g->∀O nx,r.ok O nx v O nx)/\K v
 | .val v,K,h=>by simp only[ux.gg,GR,Yv]at h;exact⟨v,fun _ _ _=>⟨rfl,rfl,rfl⟩,h⟩
 | .need p k,K,h=>by
   simp only[ux.gg,Od]at h;obtain⟨v,h1,h2⟩:=ux.pH h.k;exact⟨v,fun hg O nx=>⟨h.p hg,h1 hg O nx⟩,h2⟩
 | .get rs i f,K,h=>by
   simp only[ux.gg,Oe,JY]at h;obtain⟨row,hr,h⟩:=h.out;obtain⟨v,h1,h2⟩:=ux.pH h;exact⟨v,fun hg O nx=>⟨row,hr hg,h1 hg O nx⟩,h2⟩
 | .new _ _,_,h=>h.out.elim
 | .kZ _ _ _,_,h=>h.out.elim
 | .gU _ _ _,_,h=>h.out.elim
 | .ite _ _ _,_,h=>h.out.elim
 | .fail,_,h=>h.out.elim
theorem Pn(hT:uC M.P M.C.T){a:Act}{fr:Fr}{gs:Gs}{path:List (Nat×Bool)}(H:vR M J w O nx)(hf:kN J a fr)(hg:cq J a gs)(hp:uW a path)(o:Oper){v:SV}{O':vX}{vW:Nat}(hr:(iD M.C fr gs path O nx o.op).ok O nx v O' vW):Y7 M J w o a.eval v O' vW:=by
 have A:At M J w O nx a.eval (mm fr gs path):=⟨H,hT,fun x sv hx=>UQ hf hg hp hx⟩;obtain⟨dst,op,ty,pos,af,gd⟩:=o;cases op with
 |pick c x y=>
  simp only[iD,Og]at hr;split at hr
  case h_2=>exact hr.elim
  rename_i s;split at hr
  case h_2=>exact hr.elim
  rename_i b hb;have qg:=X3 (A.L _ _ hb);split at hr
  case h_2=>exact hr.elim
  rename_i p q hx hy;refine A.val hr ⟨.bool (bif b then p else q), .inl ?_,rfl⟩;cases b with
  |true=>
   have h2:=X3 (UQ hf hg (path:=(s,true)::path) (fun z hz=>by
    rcases zL.1 hz with rfl|hz
    exact qg
    exact hp z hz) hx)
   simp[execOp,qg,h2,asBool]
  |false=>
   have h2:=X3 (UQ hf hg (path:=(s,false)::path) (fun z hz=>by
    rcases zL.1 hz with rfl|hz
    exact qg
    exact hp z hz) hy)
   simp[execOp,qg,h2,asBool]
 |_=>exact D2 A _ hr
theorem Wj(hT:uC M.P M.C.T){ops:Array Oper}{Q:Exit->Act->World->Prop}:∀(rest:List Oper) {fr:Fr} {gs:Gs} {O:vX} {nx:Nat} {K:Fr->vX->Nat->Prop},oR M ops.toList rest fr gs O nx K->
 ∀{J:Env} {a:Act} {w:World},u7 M J fr O nx a w->cq J a gs->(∀J fr O nx a w,u7 M J fr O nx a w->K fr O nx->Q .normal a w)->wpListIn M.uo 0 M.P ops Q rest a w
 | [],fr,gs,O,nx,K,h,J,a,w,hm,hg,hq=>hq J fr O nx a w hm h
 |o::rest,fr,gs,O,nx,K,h,J,a,w,hm,hg,hq=>by
  replace h:Eg M ops.toList o rest (oR M ops.toList rest) fr gs O nx K:=h
  unfold Eg at h;split at h
  exact h.out.elim;rename_i hd;split at h
  exact h.out.elim;rename_i hfresh;split at h
  .rename_i Fc;refine Xy (Ud Fc) ?_
   have main:∀{op:Op},o.op=op->((iD M.C fr gs [] O nx op).go O nx fun v O nx=>wz o.dst v fr fun fr=>oR M ops.toList rest fr gs O nx K)->o.wpIn M.uo 0 M.P a w (wpListIn M.uo 0 M.P ops Q rest) Q:=by
    intro op ho h;subst ho;obtain⟨v,O',vW,h1,h2⟩:=ux.go_ok h;obtain⟨u,w',η',h3,h4,h5,h6,_⟩:=Pn hT hm.heap hm.frame hg (fun x hx=>by cases hx) o h1;obtain⟨fQ,h7,h8⟩:=hm.put hd h4 h5 h6 h2;exact D8 M.all h3 (Wj hT rest h7 h8 (hg.put h4 hfresh) hq)
   split at h
   .rename_i c ho;split at h
    exact main ho h
    .split at h
     .rename_i f args hc;rw[J6]at h;refine Pj ho hm.heap (fun x sv hx=>UQ hm.frame hg (fun x hx=>by cases hx) hx) hc h fun v r O' vW η' w' h1 h2 h3 h4=>?_;rw[Yv,VU]at h4;obtain⟨fQ,h7,h8⟩:=hm.put hd h1 h2 h3 h4;exact Wj hT rest h7 h8 (hg.put h1 hfresh) hq
     exact h.out.elim
   exact main rfl h
  .rename_i j want Fc;split at h
   exact h.out.elim;rename_i s hs;split at h
   exact h.out.elim;rename_i d eV;split at h
   exact h.out.elim;rename_i hnot;split at h
   exact h.out.elim;rename_i g Iw;obtain⟨v,h1,h2⟩:=ux.pH h;rw[eV]at hd hfresh;have hlt:d<a.tmps.size:=by rw[hm.size];exact D5 hd
   have next:∀{η':Env} {u:Value} {w':World},J<+:η'->vR M η' w' O nx->(uW a (mq gs s want)->Den η' v u)->(¬uW a (mq gs s want)->u=undef)->wpListIn M.uo 0 M.P ops Q rest (a.put o.dst u) w':=by
    intro η' u w' hp hH hv hn;rw[eV];refine Wj hT rest h2 ⟨hH,by rw[D4];exact hm.size,hm.fK,by rw[put_defers,Ph hd hm.fK];exact hm.defers.mono hp,Ub hp hm.ro,(hm.frame.mono hp).put hlt (by simp only[Den])⟩ ?_ hq;intro t p sv ht;rw[Z8]at ht;split at ht
    .rename_i e;subst e;injection ht with ht;injection ht with ht1 ht2;subst ht1 ht2;rw[uW.put hnot,Pg hlt];exact⟨hv,hn⟩
    exact(hg.put (u:=u) hp hfresh) t p sv ht
   by_cases hw:a.tmps.getD s undef= .bool want
   .have hp:=Iv hg hw;have hgt:=Pm hm.frame hg Iw hp;obtain⟨u,w',η',h3,h4,h5,h6,_⟩:=Pn hT hm.heap hm.frame hg hp o (h1 hgt O nx);exact Xy ((Zx Fc).2 (VY hs hw)) (D8 M.all h3 (next h4 h5 (fun _=>h6) (fun h=>absurd hp h)))
   .have hnp:¬uW a (mq gs s want):=fun hp=>hw (hp (s,want) (zJ ..));exact XF (hF:=M.all) (fun hh=>by rw[Zx Fc]at hh;exact Uc hs hw hh) (next zu hm.heap (fun h=>absurd h hnp) (fun _=>rfl))
theorem Iy{F:Fence}{P:Program}{Q:Exit->Act->World->Prop}{a:Act}{w:World}{c:Code}(h:c.wpIn F 0 P (Exit.noGoto Q) a w):(Code.scope c).wpIn F 0 P Q a w:=by
 have s1:∀{b:Frame} {a:Act} {k:List Item} {cs:List Frame} {w:World},step P (lone (b.atR a (.code (.scope c)::k)) cs w)= .next (lone (b.atR a (.code c:: .inScope c::k)) cs w):=step_lone_go (by simp[stepG,stepG.exec,Frame.atR]);have s2:∀{b:Frame} {a:Act} {k:List Item} {cs:List Frame} {w:World},step P (lone (b.atR a (.inScope c::k)) cs w)= .next (lone (b.atR a k) cs w):=step_lone_go (by simp[stepG,stepG.exec,Frame.atR]);intro b k cs hro hb hr;have h0:(lone (b.atR a (.code (.scope c)::k)) cs w).fenced P F:=fenced_calm hb hr rfl;obtain⟨e,a₁,w₁,hq,qI⟩:=h b (.inScope c::k) cs hro hb hr;cases e with
 |normal=>exact⟨.normal,a₁,w₁,hq, .head h0 s1 (StepsIn.trans qI (.one (fenced_calm hb hr rfl) s2))⟩
 |exit id=>
  have hx:exitTo id (.inScope c::k)=exitTo id k:=by simp[exitTo]
  exact⟨.exit id,a₁,w₁,hq,fun k' hk=> .head h0 s1 (qI.1 k' (by rw[hx];exact hk)),fun hr' hk=>let⟨k₁,h1,h2⟩:=qI.2 hr' (by rw[hx];exact hk);⟨k₁,h1, .head h0 s1 h2⟩⟩
 |goto l=>exact hq.elim
 |ret=>exact⟨_,a₁,w₁,hq, .of_steps (.one h0 s1) qI⟩
 |panic ch=>exact⟨_,a₁,w₁,hq, .of_steps (.one h0 s1) qI⟩
 |outgrown=>exact⟨_,a₁,w₁,hq, .of_steps (.one h0 s1) qI⟩
theorem Iz(hT:uC M.P M.C.T){id:Nat}{ops:Array Oper}{fr:Fr}{K:Fr->vX->Nat->Prop}{Q:Exit->Act->World->Prop}
 (h:match guarded ops.toList&&!(Oi ops.toList)&&M.px.isNone with|true=>oR M ops.toList ops.toList fr [] O nx K|false=>aO M ops.toList ops.toList fr O nx K) {a:Act} (hm:u7 M J fr O nx a w) (hq:∀J fr O nx a w,u7 M J fr O nx a w->K fr O nx->Q .normal a w) (hp:∀ch a w,GO M ch a w->Q (.panic ch) a w):
 (Code.region id ops false).wpIn M.uo 0 M.P Q a w:=by
 refine wpIn_region_list ?_;split at h
 exact Wj hT _ h hm (fun t p sv ht=>by simp[u5]at ht) hq;exact Da hT _ h hm hq hp
theorem Y5(hT:uC M.P M.C.T):∀(c:Code) {fr:Fr} {O:vX} {nx:Nat} {Q:Post},run M c fr O nx Q->Walk M c fr O nx Q
 | .skip,fr,O,nx,Q,h=>fun J a w hm=>wpIn_skip ⟨J,fr,O,nx,hm,h⟩
 | .label l,fr,O,nx,Q,h=>fun J a w hm=>wpIn_label ⟨J,fr,O,nx,hm,h⟩
 | .ret,fr,O,nx,Q,h=>fun J a w hm=>wpIn_ret ⟨J,fr,O,nx,hm,h⟩
 | .exit id,fr,O,nx,Q,h=>fun J a w hm=>wpIn_exit ⟨J,fr,O,nx,hm,h⟩
 | .region id ops draw,fr,O,nx,Q,h=>by
   simp only[run,Oj]at h;cases draw with
   |true=>exact h.out
   |false=>exact fun J a w hm=>Iz hT h hm (fun J fr O nx a w hm hk=>⟨J,fr,O,nx,hm,hk⟩) fun ch a w h=>h
 | .seq x y,fr,O,nx,Q,h=>fun J a w hm=>by
   refine wpIn_seq (Code.wpIn_mono ?_ (Y5 hT x h J a w hm));intro e a w hq;cases e with
   |normal=>obtain⟨J,fr,O,nx,hm,hq⟩:=hq;exact Y5 hT y hq J a w hm
   |exit id=>exact hq
   |ret=>exact hq
   |goto l=>exact hq
   |panic ch=>exact hq
   |outgrown=>exact hq
 | .cond c x y,fr,O,nx,Q,h=>fun J a w hm=>by
   simp only[run,Ol]at h;split at h
   case h_3=>exact h.out.elim
   case h_2 n hb=>
    have qg:=Yw hm.frame hb;simp only[Den]at qg;obtain⟨b,qg,h0⟩:=qg;split at h
    case h_2=>exact h.out.elim
    rename_i t;refine wpIn_cond_split qg (fun e=>?_) (fun e=>?_)
    .subst e;exact Y5 hT x (h.t (h0 rfl)) J a w (hm.know (s:=t) (show u5 t fr=_ from hb) rfl rfl qg)
    .subst e;exact Y5 hT y h.f J a w (hm.know (s:=t) (show u5 t fr=_ from hb) rfl rfl qg)
   rename_i b hb;have qg:=X3 (Yw hm.frame hb);split at h
   .rename_i t;refine wpIn_cond_split qg (fun e=>?_) (fun e=>?_)
    .subst e;exact Y5 hT x (h.t rfl) J a w (hm.know (s:=t) (show u5 t fr=_ from hb) rfl rfl qg)
    .subst e;exact Y5 hT y (h.f rfl) J a w (hm.know (s:=t) (show u5 t fr=_ from hb) rfl rfl qg)
   .refine wpIn_cond_split qg (fun e=>?_) (fun e=>?_);subst e;exact Y5 hT x (h.t rfl) J a w hm;subst e;exact Y5 hT y (h.f rfl) J a w hm
 | .block id body,fr,O,nx,Q,h=>fun J a w hm=>by
   refine wpIn_block (Code.wpIn_mono ?_ (Y5 hT body h J a w hm));intro e a w hq;cases e with
   |normal=>exact hq
   |exit i=>
    obtain⟨J,fr,O,nx,hm,hq⟩:=hq;simp only[Exit.inBlock];simp only at hq;split at hq
    .rename_i e;have e:=Zr e;subst e;rw[zf rfl];exact⟨J,fr,O,nx,hm,hq⟩
    .rename_i e;rw[z7 (Jv e)];exact⟨J,fr,O,nx,hm,hq⟩
   |ret=>exact hq
   |goto l=>exact hq
   |panic ch=>exact hq
   |outgrown=>exact hq
 | .loop body,fr,O,nx,Q,h=>fun J a w hm b k cs hro hb hr=>
   let⟨e,a',w',hq,qI⟩:=h.out J a w hm b k cs hro
   ⟨e,a',w',hq, .of_steps (.one (fenced_calm hb hr rfl) stepR_loop) qI⟩
 | .scope body,fr,O,nx,Q,h=>fun J a w hm=>by
   refine Iy (Code.wpIn_mono ?_ (Y5 hT body h J a w hm));intro e a w hq;cases e<;>exact hq
 | .rangeFunc f ps eo body,fr,O,nx,Q,h=>h.out
 | .goto _,fr,O,nx,Q,h=>h.out.elim
 | .refuse _,fr,O,nx,Q,h=>h.out.elim
structure vU(M:Mx)(fr:Fr)(O:vX)(nx:Nat)(fr':Fr)(O':vX)(vW:Nat):Prop where
 out:∀J a w,u7 M J fr O nx a w->∃η',u7 M η' fr' O' vW a w
theorem vZ.inv{body:Code}{fr:Fr}{Q:Post}(hT:uC M.P M.C.T){X:Type}(P:X->Prop)(I:X->Fr×vX×Nat)(Y:X->Nat)(x0:X)(hP:P x0)(h0:vU M fr O nx (I x0).1 (I x0).2.1 (I x0).2.2)
 (hr:∀x,P x->run M body (I x).1 (I x).2.1 (I x).2.2 fun e fr O nx=>match e with
   | .normal=> ∃x',P x'/\Y x'<Y x/\vU M fr O nx (I x').1 (I x').2.1 (I x').2.2
   |e=>Q e fr O nx):vZ M body fr O nx Q:=by
 refine⟨fun J a w hm=>?_⟩;obtain⟨η',hm0⟩:=h0.out J a w hm;intro b k cs hro;have hb:M.uo.fn b.fn:=M.all _;have hrm:M.uo.room (cs.length+1+0):=M.room _
 have key:∀n x J a w,P x->Y x=n->u7 M J (I x).1 (I x).2.1 (I x).2.2 a w->
  ∃e a' w',iC M Q e a' w'/\ArrivesIn (Machine.fenced M.P M.uo) M.P (lone (b.atR a (.code body:: .inLoop body::k)) cs w) b k cs e a' w':=by
  intro n
  induction n using Nat.strongRecOn with
  |_ n ih=>
   intro x J a w hx hn hm;obtain⟨e,a',w',hq,qI⟩:=Y5 hT body (hr x hx) J a w hm b (.inLoop body::k) cs hro hb hrm;cases e with
   |normal=>
    obtain⟨η1,qV,O1,kK,qy,x',hx',hlt,hnext⟩:=hq;obtain⟨η2,hm2⟩:=hnext.out η1 a' w' qy;obtain⟨e2,a2,w2,bh,pI⟩:=ih (Y x') (hn▸hlt) x' η2 a' w' hx' rfl hm2;exact⟨e2,a2,w2,bh, .of_steps (StepsIn.trans qI (.one (fenced_calm hb hrm rfl) stepR_inLoop)) pI⟩
   |exit id=>
    obtain⟨η1,qV,O1,kK,qy,hq⟩:=hq;exact⟨.exit id,a',w',⟨η1,qV,O1,kK,qy,hq⟩, .pass (x:= .inLoop body) rfl (fun _ _=> .inl (by simp)) qI⟩
   |ret=>
    obtain⟨η1,qV,O1,kK,qy,hq⟩:=hq;exact⟨.ret,a',w',⟨η1,qV,O1,kK,qy,hq⟩, .pass (x:= .inLoop body) rfl (fun _ _=> .inl (by simp)) qI⟩
   |goto l=>exact hq.elim
   |panic ch=>exact⟨.panic ch,a',w',hq, .pass (x:= .inLoop body) rfl (fun _ _=> .inl (by simp)) qI⟩
   |outgrown=>exact hq.elim
 exact key _ x0 η' a w hP rfl hm0
theorem vZ.once{body:Code}{fr:Fr}{Q:Post}(hT:uC M.P M.C.T)
 (hr:run M body fr O nx fun e fr O nx=>match e with
   | .normal=>vZ M body fr O nx Q
   |e=>Q e fr O nx):vZ M body fr O nx Q:=by
 refine⟨fun J a w hm=>?_⟩;intro b k cs hro;have hb:M.uo.fn b.fn:=M.all _;have hrm:M.uo.room (cs.length+1+0):=M.room _;obtain⟨e,a',w',hq,qI⟩:=Y5 hT body hr J a w hm b (.inLoop body::k) cs hro hb hrm;cases e with
 |normal=>
  obtain⟨η1,qV,O1,kK,qy,hq⟩:=hq;obtain⟨e2,a2,w2,bh,pI⟩:=hq.out η1 a' w' qy b k cs hro;exact⟨e2,a2,w2,bh, .of_steps (StepsIn.trans qI (.one (fenced_calm hb hrm rfl) stepR_inLoop)) pI⟩
 |exit id=>
  obtain⟨η1,qV,O1,kK,qy,hq⟩:=hq;exact⟨.exit id,a',w',⟨η1,qV,O1,kK,qy,hq⟩,(.pass (x:= .inLoop body) rfl (fun _ _=> .inl (by simp)) qI)⟩
 |ret=>
  obtain⟨η1,qV,O1,kK,qy,hq⟩:=hq;exact⟨.ret,a',w',⟨η1,qV,O1,kK,qy,hq⟩,(.pass (x:= .inLoop body) rfl (fun _ _=> .inl (by simp)) qI)⟩
 |goto l=>exact hq.elim
 |panic ch=>exact⟨.panic ch,a',w',hq, .pass (x:= .inLoop body) rfl (fun _ _=> .inl (by simp)) qI⟩
 |outgrown=>exact hq.elim
end
def uS(σ:Nat->Nat):wq->wq
 | .uH g=> .uH g
 | .loc i=> .loc (σ i)
mutual
def ur(σ:Nat->Nat):SV->SV
 | .bool b=> .bool b
 | .int k n=> .int k n
 | .str s=> .str s
 | .ptr b r es c=> .ptr (uS σ b) r es c
 | .sl b r es len lim=> .sl (uS σ b) r es len lim
 | .val v=> .val v
 | .agg cs=> .agg (uJ σ cs)
 | .arr es rs=> .arr es (Xn σ rs)
 | .uz vs=> .uz (uJ σ vs)
 | .fH t v=> .fH t (ur σ v)
 | .fn f a b=> .fn f (uJ σ a) (uJ σ b)
 | .mp b=> .mp (uS σ b)
 | .any=> .any
 | .nb n=> .nb n
 | .yf b=> .yf (uS σ b)
 | .jJ l=> .jJ (uJ σ l)
def uJ(σ:Nat->Nat):List SV->List SV
 | []=>[]
 |c::cs=>ur σ c::uJ σ cs
def Xn(σ:Nat->Nat):List (List SV)->List (List SV)
 | []=>[]
 |r::rs=>uJ σ r::Xn σ rs
end
def kR(σ:Nat->Nat):Fr->Fr
 | []=>[]
 |(t,v)::r=>(t,ur σ v)::kR σ r
def gh(σ:Nat->Nat):DC->DC
 | .v s=> .v (ur σ s)
 | .uA es rows=> .uA es (Xn σ rows)
def ax(σ:Nat->Nat):List DC->List DC
 | []=>[]
 |c::cs=>gh σ c::ax σ cs
def XG(σ:Nat->Nat):List (List DC)->List (List DC)
 | []=>[]
 |r::rs=>ax σ r::XG σ rs
theorem Db(σ:Nat->Nat):∀r:List DC,ax σ r=r.map (gh σ)
 | []=>rfl
 |c::cs=>by simp only[ax,zG,Db σ cs]
theorem Dc(σ:Nat->Nat):∀rs:List (List DC),XG σ rs=rs.map (ax σ)
 | []=>rfl
 |c::cs=>by simp only[XG,zG,Dc σ cs]
theorem Po(σ:Nat->Nat):∀r:List SV,uJ σ r=r.map (ur σ)
 | []=>rfl
 |c::cs=>by simp only[uJ,zG,Po σ cs]
theorem Pp(σ:Nat->Nat):∀rs:List (List SV),Xn σ rs=rs.map (uJ σ)
 | []=>rfl
 |c::cs=>by simp only[Xn,zG,Pp σ cs]
theorem IA(σ:Nat->Nat)(c:DC):ZS (gh σ c)=ur σ (ZS c):=by cases c<;>rfl
theorem VZ(σ:Nat->Nat)(rs:List (List DC)):Zy (XG σ rs)=Xn σ (Zy rs):=by
 rw[Dc,Pp];unfold Zy;rw[xo,xo];refine yy fun r _=>?_;simp only[Function.comp,Db,Po,xo];exact yy fun c _=>IA σ c
theorem V9(σ:Nat->Nat)(rs:List (List DC))(i j:Nat):Ye (XG σ rs) i j=(Ye rs i j).map fun x=>(x.1,Xn σ x.2):=by
 unfold Ye;rw[Dc,z6];cases rs[i]? with
 |none=>rfl
 |some row=>
  simp only[Option.map_some,Db,z6];cases row[j]? with
  |none=>rfl
  |some c=>cases c<;>rfl
def um(σ:Nat->Nat):Hp->Hp
 | .box row=> .box (uJ σ row)
 | .rows es rs=> .rows es (Xn σ rs)
 | .wu s p=> .wu s p
 | .dY vs=> .dY vs
 | .kV T e l=> .kV T e l
 | .jV f=> .jV f
 | .lp st li fr=> .lp st li (kR σ fr)
 | .mp rs=> .mp (Xn σ rs)
 | .deep mp es rs=> .deep mp es (XG σ rs)
theorem ZD{J:Type}(f:J->List SV)(h:∀x,YJ (f x)=true):∀xs:List J,Zj (xs.map f)=true
 | []=>rfl
 |x::xs=>by simp only[zG,Zj,h x,ZD f h xs,zB]
theorem VN:∀{xs ys:List (List SV)},Zj xs=true->Zj ys=true->Zj (xs++ys)=true
 | [],ys,_,h=>h
 |x::xs,ys,h,k=>by
  simp only[Zj,zj]at h;simp only[List.cons_append,Zj,h.1,VN h.2 k,zB]
mutual
theorem X8(σ:Nat->Nat):∀{v:SV},plain v=true->ur σ v=v
 | .bool _,_=>rfl
 | .int _ _,_=>rfl
 | .str _,_=>rfl
 | .val _,_=>rfl
 | .any,_=>rfl
 | .nb _,_=>rfl
 | .ptr (.uH _) _ _ _,_=>rfl
 | .ptr (.loc _) _ _ _,h=>by simp[plain]at h
 | .sl (.uH _) _ _ _ _,_=>rfl
 | .sl (.loc _) _ _ _ _,h=>by simp[plain]at h
 | .agg cs,h=>by simp only[plain]at h;simp only[ur,ZL σ h]
 | .arr _ rs,h=>by simp only[plain]at h;simp only[ur,Zd σ h]
 | .uz vs,h=>by simp only[plain]at h;simp only[ur,ZL σ h]
 | .fH _ v,h=>by simp only[plain]at h;simp only[ur,X8 σ h]
 | .fn _ a b,h=>by simp only[plain,zj]at h;simp only[ur,ZL σ h.1,ZL σ h.2]
 | .mp (.uH _),_=>rfl
 | .mp (.loc _),h=>by simp[plain]at h
 | .yf _,h=>by simp[plain]at h
 | .jJ _,h=>by simp[plain]at h
theorem ZL(σ:Nat->Nat):∀{vs:List SV},YJ vs=true->uJ σ vs=vs
 | [],_=>rfl
 |c::cs,h=>by simp only[YJ,zj]at h;simp only[uJ,X8 σ h.1,ZL σ h.2]
theorem Zd(σ:Nat->Nat):∀{vs:List (List SV)},Zj vs=true->Xn σ vs=vs
 | [],_=>rfl
 |c::cs,h=>by simp only[Zj,zj]at h;simp only[Xn,ZL σ h.1,Zd σ h.2]
end
theorem Dd(σ:Nat->Nat):∀{fr:Fr},iy fr=true->kR σ fr=fr
 | [],_=>rfl
 |(t,v)::r,h=>by simp only[iy,zj]at h;simp only[kR,X8 σ h.1,Dd σ h.2]
theorem Pq(σ:Nat->Nat):∀{c:DC},JN c=true->gh σ c=c
 | .v s,h=>by simp only[JN]at h;simp only[gh,X8 σ h]
 | .uA _ rs,h=>by simp only[JN]at h;simp only[gh,Zd σ h]
theorem Ue(σ:Nat->Nat):∀{r:List DC},Yr r=true->ax σ r=r
 | [],_=>rfl
 |c::cs,h=>by simp only[Yr,zj]at h;simp only[ax,Pq σ h.1,Ue σ h.2]
theorem Vy(σ:Nat->Nat):∀{r:List (List DC)},ZB r=true->XG σ r=r
 | [],_=>rfl
 |c::cs,h=>by simp only[ZB,zj]at h;simp only[XG,Ue σ h.1,Vy σ h.2]
theorem Zv(σ:Nat->Nat){h:Hp}(p:V2 h=true):um σ h=h:=by
 cases h<;>simp only[V2]at p<;>simp only[um,ZL σ,Zd σ,Dd σ,Vy σ,p]
section
variable {K η':Env}{σ:Nat->Nat}
def aT(K η':Env)(σ:Nat->Nat):Prop:=∀i x,K[i]?=some x->η'[σ i]?=some x
theorem aT.get(h:aT K η' σ){b:wq}{x:Option wZ}(hb:K.get b=some x):η'.get (uS σ b)=some x:=by
 cases b with
 |uH g=>exact hb
 |loc i=>exact h i x hb
mutual
theorem Den.ur(h:aT K η' σ):∀{sv:SV} {v:Value},Den K sv v->Den η' (ur σ sv) v
 | .bool _,_,d=>d
 | .int _ _,_,d=>d
 | .str _,_,d=>d
 | .ptr b r es c,v,d=>by
   simp only[Den,Go.Sx.ur]at d⊢;obtain⟨e,h1,h2⟩:=d;exact⟨e,h.get h1,h2⟩
 | .sl b r es len lim,v,d=>by
   simp only[Den,Go.Sx.ur]at d⊢;rcases d with⟨h1,h2⟩|⟨e,o,h1,h2⟩
   exact .inl ⟨h.get h1,h2⟩;exact .inr ⟨e,o,h.get h1,h2⟩
 | .val _,_,d=>d
 | .agg cs,v,d=>by
   simp only[Den,Go.Sx.ur]at d⊢;obtain⟨vs,h1,h2,h3⟩:=d;exact⟨vs,h1,vV.ur h h2,h3⟩
 | .arr es rs,v,d=>by
   simp only[Den,Go.Sx.ur]at d⊢;obtain⟨vs,h1,h2,h3⟩:=d;exact⟨vs,h1,uh.ur h h2,h3⟩
 | .uz ts,v,d=>by
   simp only[Den,Go.Sx.ur]at d⊢;obtain⟨vs,h1,h2⟩:=d;exact⟨vs,h1,vV.ur h h2⟩
 | .fH t x,v,d=>by
   simp only[Den,Go.Sx.ur]at d⊢;obtain⟨u,h1,h2⟩:=d;exact⟨u,h1,Den.ur h h2⟩
 | .fn f a b,v,d=>by
   simp only[Den,Go.Sx.ur]at d⊢;obtain⟨us,vs,h1,h2,h3⟩:=d;exact⟨us,vs,h1,vV.ur h h2,vV.ur h h3⟩
 | .mp b,v,d=>by
   simp only[Den,Go.Sx.ur]at d⊢;obtain⟨e,h1,h2⟩:=d;exact⟨e,h.get h1,h2⟩
 | .yf b,v,d=>by
   simp only[Den,Go.Sx.ur]at d⊢;obtain⟨e,h1,h2⟩:=d;exact⟨e,h.get h1,h2⟩
 | .jJ _,_,d=>d
 | .any,_,d=>d
 | .nb _,_,d=>d
theorem vV.ur(h:aT K η' σ):∀{cs:List SV} {vs:List Value},vV K cs vs->vV η' (uJ σ cs) vs
 | [],_,d=>d
 |c::cs,vs,d=>by
  simp only[vV,uJ]at d⊢;obtain⟨u,us,h1,h2,h3⟩:=d;exact⟨u,us,h1,Den.ur h h2,vV.ur h h3⟩
theorem uh.ur{es:Nat}(h:aT K η' σ):∀{rs:List (List SV)} {vs:List Value},uh K es rs vs->uh η' es (Xn σ rs) vs
 | [],_,d=>d
 |r::rs,vs,d=>by
  simp only[uh,Xn]at d⊢;obtain⟨us,ws,h1,h2,h3,h4⟩:=d;exact⟨us,ws,h1,h2,vV.ur h h3,uh.ur h h4⟩
end
def fo(K η':Env)(σ:Nat->Nat)(k:Nat):Prop:=∀i x,i<k->K[σ i]?=some x->η'[i]?=some x
mutual
def ZV(k:Nat):SV->Bool
 | .bool _| .int _ _| .str _| .val _| .any| .nb _=>true
 | .ptr b _ _ _=>WJ k b
 | .sl b _ _ _ _=>WJ k b
 | .agg cs=>ZR k cs
 | .arr _ rs=>Ys k rs
 | .uz vs=>ZR k vs
 | .fH _ v=>ZV k v
 | .fn _ a b=>ZR k a&&ZR k b
 | .mp b=>WJ k b
 | .yf b=>WJ k b
 | .jJ l=>ZR k l
def ZR(k:Nat):List SV->Bool
 | []=>true
 |c::cs=>ZV k c&&ZR k cs
def Ys(k:Nat):List (List SV)->Bool
 | []=>true
 |r::rs=>ZR k r&&Ys k rs
def WJ(k:Nat):wq->Bool
 | .uH _=>true
 | .loc i=>Nat.blt i k
end
def WK(k:Nat):Fr->Bool
 | []=>true
 |(_,v)::r=>ZV k v&&WK k r
def mF(k:Nat):DC->Bool
 | .v s=>ZV k s
 | .uA _ rs=>Ys k rs
def Xz(k:Nat):List DC->Bool
 | []=>true
 |c::cs=>mF k c&&Xz k cs
def Yy(k:Nat):List (List DC)->Bool
 | []=>true
 |r::rs=>Xz k r&&Yy k rs
def Zh(k:Nat):Hp->Bool
 | .box row=>ZR k row
 | .rows _ rs=>Ys k rs
 | .wu _ _=>true
 | .dY _=>true
 | .kV _ _ _=>true
 | .mp rs=>Ys k rs
 | .jV _=>true
 | .lp _ _ fr=>WK k fr
 | .deep _ _ rs=>Yy k rs
mutual
theorem XA(k:Nat):∀{v:SV},plain v=true->ZV k v=true
 | .bool _,_=>rfl
 | .int _ _,_=>rfl
 | .str _,_=>rfl
 | .val _,_=>rfl
 | .any,_=>rfl
 | .nb _,_=>rfl
 | .ptr (.uH _) _ _ _,_=>rfl
 | .ptr (.loc _) _ _ _,h=>by simp[plain]at h
 | .sl (.uH _) _ _ _ _,_=>rfl
 | .sl (.loc _) _ _ _ _,h=>by simp[plain]at h
 | .agg cs,h=>by simp only[plain]at h;simp only[ZV,ZE k h]
 | .arr _ rs,h=>by simp only[plain]at h;simp only[ZV,Z2 k h]
 | .uz vs,h=>by simp only[plain]at h;simp only[ZV,ZE k h]
 | .fH _ v,h=>by simp only[plain]at h;simp only[ZV,XA k h]
 | .fn _ a b,h=>by simp only[plain,zj]at h;simp only[ZV,ZE k h.1,ZE k h.2,zB]
 | .mp (.uH _),_=>rfl
 | .mp (.loc _),h=>by simp[plain]at h
 | .yf _,h=>by simp[plain]at h
 | .jJ _,h=>by simp[plain]at h
theorem ZE(k:Nat):∀{vs:List SV},YJ vs=true->ZR k vs=true
 | [],_=>rfl
 |c::cs,h=>by simp only[YJ,zj]at h;simp only[ZR,XA k h.1,ZE k h.2,zB]
theorem Z2(k:Nat):∀{vs:List (List SV)},Zj vs=true->Ys k vs=true
 | [],_=>rfl
 |c::cs,h=>by simp only[Zj,zj]at h;simp only[Ys,ZE k h.1,Z2 k h.2,zB]
end
theorem US(k:Nat):∀{fr:Fr},iy fr=true->WK k fr=true
 | [],_=>rfl
 |(t,v)::r,h=>by simp only[iy,zj]at h;simp only[WK,XA k h.1,US k h.2,zB]
theorem Pt(k:Nat):∀{c:DC},JN c=true->mF k c=true
 | .v s,h=>by simp only[JN]at h;simp only[mF,XA k h]
 | .uA _ rs,h=>by simp only[JN]at h;simp only[mF,Z2 k h]
theorem JQ(k:Nat):∀{r:List DC},Yr r=true->Xz k r=true
 | [],_=>rfl
 |c::cs,h=>by simp only[Yr,zj]at h;simp only[Xz,Pt k h.1,JQ k h.2,zB]
theorem Jl(k:Nat):∀{r:List (List DC)},ZB r=true->Yy k r=true
 | [],_=>rfl
 |c::cs,h=>by simp only[ZB,zj]at h;simp only[Yy,JQ k h.1,Jl k h.2,zB]
theorem Yz(k:Nat){h:Hp}(p:V2 h=true):Zh k h=true:=by
 cases h<;>simp only[V2]at p<;>simp only[Zh,ZE k,Z2 k,US k,Jl k,p]
variable {k:Nat}
theorem fo.get(h:fo K η' σ k){b:wq}{x:Option wZ}(hk:WJ k b=true)(hb:K.get (uS σ b)=some x):η'.get b=some x:=by
 cases b with
 |uH g=>exact hb
 |loc i=>exact h i x (by simpa[WJ]using hk) hb
mutual
theorem Den.ug(h:fo K η' σ k):∀{sv:SV} {v:Value},ZV k sv=true->Den K (ur σ sv) v->Den η' sv v
 | .bool _,_,_,d=>d
 | .int _ _,_,_,d=>d
 | .str _,_,_,d=>d
 | .ptr b r es c,v,hk,d=>by
   simp only[Den,Go.Sx.ur]at d⊢;obtain⟨e,h1,h2⟩:=d;exact⟨e,h.get (by simpa[ZV]using hk) h1,h2⟩
 | .sl b r es len lim,v,hk,d=>by
   simp only[Den,Go.Sx.ur]at d⊢;rcases d with⟨h1,h2⟩|⟨e,o,h1,h2⟩
   exact .inl ⟨h.get (by simpa[ZV]using hk) h1,h2⟩;exact .inr ⟨e,o,h.get (by simpa[ZV]using hk) h1,h2⟩
 | .val _,_,_,d=>d
 | .agg cs,v,hk,d=>by
   simp only[ZV]at hk;simp only[Den,Go.Sx.ur]at d⊢;obtain⟨vs,h1,h2,h3⟩:=d;exact⟨vs,h1,vV.ug h hk h2,h3⟩
 | .arr es rs,v,hk,d=>by
   simp only[ZV]at hk;simp only[Den,Go.Sx.ur]at d⊢;obtain⟨vs,h1,h2,h3⟩:=d;exact⟨vs,h1,uh.ug h hk h2,h3⟩
 | .uz ts,v,hk,d=>by
   simp only[ZV]at hk;simp only[Den,Go.Sx.ur]at d⊢;obtain⟨vs,h1,h2⟩:=d;exact⟨vs,h1,vV.ug h hk h2⟩
 | .fH t x,v,hk,d=>by
   simp only[ZV]at hk;simp only[Den,Go.Sx.ur]at d⊢;obtain⟨u,h1,h2⟩:=d;exact⟨u,h1,Den.ug h hk h2⟩
 | .fn f a b,v,hk,d=>by
   simp only[ZV,zj]at hk;simp only[Den,Go.Sx.ur]at d⊢;obtain⟨us,vs,h1,h2,h3⟩:=d;exact⟨us,vs,h1,vV.ug h hk.1 h2,vV.ug h hk.2 h3⟩
 | .mp b,v,hk,d=>by
   simp only[Den,Go.Sx.ur]at d⊢;obtain⟨e,h1,h2⟩:=d;exact⟨e,h.get (by simpa[ZV]using hk) h1,h2⟩
 | .yf b,v,hk,d=>by
   simp only[Den,Go.Sx.ur]at d⊢;obtain⟨e,h1,h2⟩:=d;exact⟨e,h.get (by simpa[ZV]using hk) h1,h2⟩
 | .jJ _,_,_,d=>d
 | .any,_,_,d=>d
 | .nb _,_,_,d=>d
theorem vV.ug(h:fo K η' σ k):∀{cs:List SV} {vs:List Value},ZR k cs=true->vV K (uJ σ cs) vs->vV η' cs vs
 | [],_,_,d=>d
 |c::cs,vs,hk,d=>by
  simp only[ZR,zj]at hk;simp only[vV,uJ]at d⊢;obtain⟨u,us,h1,h2,h3⟩:=d;exact⟨u,us,h1,Den.ug h hk.1 h2,vV.ug h hk.2 h3⟩
theorem uh.ug{es:Nat}(h:fo K η' σ k):∀{rs:List (List SV)} {vs:List Value},Ys k rs=true->uh K es (Xn σ rs) vs->uh η' es rs vs
 | [],_,_,d=>d
 |r::rs,vs,hk,d=>by
  simp only[Ys,zj]at hk;simp only[uh,Xn]at d⊢;obtain⟨us,ws,h1,h2,h3,h4⟩:=d;exact⟨us,ws,h1,h2,vV.ug h hk.1 h3,uh.ug h hk.2 h4⟩
end
theorem De:∀{row:List SV} {j:Nat},(uJ σ row)[j]?=(row[j]?).map (ur σ)
 | [],j=>by simp[uJ]
 |c::cs,0=>by simp[uJ]
 |c::cs,j+1=>by simp[uJ,De (row:=cs) (j:=j)]
theorem Uf:∀{row:List SV},(uJ σ row).length=row.length
 | []=>rfl
 |c::cs=>by simp[uJ,Uf (row:=cs)]
theorem X9:∀{rs:List (List SV)} {j:Nat},(Xn σ rs)[j]?=(rs[j]?).map (uJ σ)
 | [],j=>by simp[Xn]
 |c::cs,0=>by simp[Xn]
 |c::cs,j+1=>by simp[Xn,X9 (rs:=cs) (j:=j)]
theorem Yb:∀{row:List (List SV)},(Xn σ row).length=row.length
 | []=>rfl
 |c::cs=>by simp[Xn,Yb (row:=cs)]
theorem Pu:∀{row:List SV} {j:Nat} {c:SV},ZR k row=true->row[j]?=some c->ZV k c=true
 | [],j,c,_,h=>by simp at h
 |d::cs,0,c,hk,h=>by simp only[ZR,zj]at hk;simp at h;subst h;exact hk.1
 |d::cs,j+1,c,hk,h=>by simp only[ZR,zj]at hk;simp at h;exact Pu hk.2 h
theorem J8:∀{rs:List (List SV)} {j:Nat} {c:List SV},Ys k rs=true->rs[j]?=some c->ZR k c=true
 | [],j,c,_,h=>by simp at h
 |d::cs,0,c,hk,h=>by simp only[Ys,zj]at hk;simp at h;subst h;exact hk.1
 |d::cs,j+1,c,hk,h=>by simp only[Ys,zj]at hk;simp at h;exact J8 hk.2 h
theorem uj.ur(h:aT K η' σ){arr:Array Value}{o:Nat}{row:List SV}(d:uj K arr o row):uj η' arr o (uJ σ row):=by
 intro j sv hj;rw[De]at hj;cases hr:row[j]? with
 |none=>rw[hr]at hj;cases hj
 |some c=>
  rw[hr]at hj;simp only[Option.map_some,zi]at hj;subst hj;obtain⟨v,h1,h2,h3⟩:=d j c hr;exact⟨v,h1,h2,h3.ur h⟩
theorem uj.ug(h:fo K η' σ k){arr:Array Value}{o:Nat}{row:List SV}(hk:ZR k row=true)(d:uj K arr o (uJ σ row)):uj η' arr o row:=by
 intro j sv hj;obtain⟨v,h1,h2,h3⟩:=d j (Go.Sx.ur σ sv) (by rw[De,hj];rfl);exact⟨v,h1,h2,h3.ug h (Pu hk hj)⟩
theorem Pv:∀{fr:Fr} {t:Nat} {v:SV},u5 t (kR σ fr)=some v->∃u,u5 t fr=some u/\v=ur σ u
 | [],t,v,h=>by simp[kR,u5]at h
 |(d,u)::r,t,v,h=>by
  simp only[kR]at h;rw[Z8]at h⊢;split at h
  rename_i e;subst e;injection h with h;exact⟨u,by simp,h.symm⟩
  rename_i e;rw[z7 e];exact Pv h
theorem Pw:∀{fr:Fr} {t:Nat} {u:SV},u5 t fr=some u->u5 t (kR σ fr)=some (ur σ u)
 | [],t,v,h=>by simp[u5]at h
 |(d,u)::r,t,v,h=>by
  simp only[kR];rw[Z8]at h⊢;split at h
  rename_i e;subst e;injection h with h;subst h;rw[zf rfl]
  rename_i e;rw[z7 e];exact Pw h
theorem Px:∀{fr:Fr} {t:Nat} {v:SV},WK k fr=true->u5 t fr=some v->ZV k v=true
 | [],t,v,_,h=>by simp[u5]at h
 |(d,u)::r,t,v,hb,h=>by
  simp only[WK,zj]at hb;rw[Z8]at h;split at h
  injection h with h;subst h;exact hb.1;exact Px hb.2 h
theorem qj.ur(h:aT K η' σ){tmps:Array Value}{fr:Fr}(d:qj K tmps fr):qj η' tmps (kR σ fr):=fun t sv ht=>by
 obtain⟨u,h1,rfl⟩:=Pv ht;exact(d t u h1).ur h
theorem qj.ug(h:fo K η' σ k){tmps:Array Value}{fr:Fr}(hk:WK k fr=true)(d:qj K tmps (kR σ fr)):qj η' tmps fr:=fun t sv ht=>
 (d t _ (Pw ht)).ug h (Px hk ht)
theorem kM.ur(h:aT K η' σ){r:Loop}{st:aM}{li:mh}{fr:Fr}(d:kM K r st li fr):kM η' r st li (kR σ fr):=
 let⟨h1,h2,h3,h4,h5,h6,h7⟩:=d;⟨h1,h2,h3,h4,h5,h6,h7.ur h⟩
theorem kM.ug(h:fo K η' σ k){r:Loop}{st:aM}{li:mh}{fr:Fr}(hk:WK k fr=true)(d:kM K r st li (kR σ fr)):kM η' r st li fr:=
 let⟨h1,h2,h3,h4,h5,h6,h7⟩:=d;⟨h1,h2,h3,h4,h5,h6,h7.ug h hk⟩
theorem kW.ug(h:fo K η' σ k):∀{l:List SV} {ds:List Deferred},ZR k l=true->kW K (uJ σ l) ds->kW η' l ds
 | [],ds,_,d=>d
 |c::l,ds,hk,d=>by
  simp only[ZR,zj]at hk;cases c with
  |ptr b _ _ _=>
   simp only[kW,uJ,Go.Sx.ur]at d⊢;obtain⟨e,r,h1,h2,h3⟩:=d;exact⟨e,r,h.get (by simpa[ZV]using hk.1) h1,h2,kW.ug h hk.2 h3⟩
  |val v=>
   simp only[kW,uJ,Go.Sx.ur]at d⊢;obtain⟨f,r,h1,h2,h3⟩:=d;exact⟨f,r,h1,h2,kW.ug h hk.2 h3⟩
  |fn f x y=>
   simp only[kW,uJ,Go.Sx.ur]at d⊢;obtain⟨us,vs,r,h1,h2,h3,h4⟩:=d;have hb:ZR k x=true/\ZR k y=true:=by simpa[ZV]using hk.1
   exact⟨us,vs,r,vV.ug h hb.1 h1,vV.ug h hb.2 h2,h3,kW.ug h hk.2 h4⟩
  |_=>simp only[kW,uJ,Go.Sx.ur]at d
theorem uV.ur(h:aT K η' σ){w:World}{v:Value}{es:Nat}{rows:List (List SV)}(d:uV K w v es rows):uV η' w v es (Xn σ rows):=by
 rcases d with⟨h1,rfl⟩|⟨g,cap,arr,T,fz,h1,h2,h3,h4,h5,h6⟩
 exact .inl ⟨h1,rfl⟩
 .refine .inr ⟨g,cap,arr,T,fz,by rw[Yb];exact h1,h2,h3,h4,by rw[Yb];exact h5,fun j row hr=>?_⟩;rw[X9]at hr;cases hq:rows[j]? with
  |none=>rw[hq]at hr;cases hr
  |some q=>
   rw[hq]at hr;simp only[Option.map_some,zi]at hr;subst hr;rw[Uf];exact⟨(h6 j q hq).1,(h6 j q hq).2.ur h⟩
theorem uV.ug(h:fo K η' σ k){w:World}{v:Value}{es:Nat}{rows:List (List SV)}(hk:Ys k rows=true)(d:uV K w v es (Xn σ rows)):uV η' w v es rows:=by
 rcases d with⟨h1,h0⟩|⟨g,cap,arr,T,fz,h1,h2,h3,h4,h5,h6⟩
 .refine .inl ⟨h1,?_⟩;have:=z8 List.length h0;rw[Yb]at this;exact zM.1 this
 .refine .inr ⟨g,cap,arr,T,fz,by rw[Yb]at h1;exact h1,h2,h3,h4,by rw[Yb]at h5;exact h5,fun j row hr=>?_⟩;obtain⟨p1,p2⟩:=h6 j (uJ σ row) (by rw[X9,hr];rfl);rw[Uf]at p1;exact⟨p1,p2.ug h (J8 hk hr)⟩
theorem wW.ur(h:aT K η' σ){w:World}{g:Nat}{o:Obj}{es:Nat}{rs:List (List DC)}(d:wW K w g o es rs):wW η' w g o es (XG σ rs):=by
 refine⟨fun i j es' rows hk=>?_,fun i j i' j' x x' v v' k h1 h2 h3 h4 h5 h6=>?_⟩
 .rw[V9]at hk;cases hq:Ye rs i j with
  |none=>rw[hq]at hk;cases hk
  |some x=>
   rw[hq]at hk;obtain⟨es0,Py⟩:=x;simp only[Option.map_some,zi,yF]at hk;obtain⟨rfl,rfl⟩:=hk;obtain⟨v,g1,g2,g3⟩:=d.sat i j _ _ hq;exact⟨v,g1,g2.ur h,g3⟩
 .rw[V9]at h1 h2;obtain⟨y,hy,_⟩:=zC.1 h1;obtain⟨y',hy',_⟩:=zC.1 h2;exact d.ne i j i' j' y y' v v' k hy hy' h3 h4 h5 h6
theorem Pz:∀{row:List DC} {j:Nat} {c:DC},Xz k row=true->row[j]?=some c->mF k c=true
 | [],j,c,_,h=>by simp at h
 |d::cs,0,c,hk,h=>by simp only[Xz,zj]at hk;simp at h;subst h;exact hk.1
 |d::cs,j+1,c,hk,h=>by simp only[Xz,zj]at hk;simp at h;exact Pz hk.2 h
theorem PA:∀{rs:List (List DC)} {j:Nat} {c:List DC},Yy k rs=true->rs[j]?=some c->Xz k c=true
 | [],j,c,_,h=>by simp at h
 |d::cs,0,c,hk,h=>by simp only[Yy,zj]at hk;simp at h;subst h;exact hk.1
 |d::cs,j+1,c,hk,h=>by simp only[Yy,zj]at hk;simp at h;exact PA hk.2 h
theorem IB{rs:List (List DC)}{i j es:Nat}{rows:List (List SV)}(hk:Yy k rs=true)(h:Ye rs i j=some (es,rows)):Ys k rows=true:=by
 unfold Ye at h;split at h
 .rename_i row hr;split at h
  .rename_i es' rows' hc;simp only[zi,yF]at h;obtain⟨rfl,rfl⟩:=h;exact Pz (PA hk hr) hc
  cases h
 cases h
theorem PB:∀{r:List DC},Xz k r=true->ZR k (r.map ZS)=true
 | [],_=>rfl
 |c::cs,h=>by
  simp only[Xz,zj]at h;simp only[zG,ZR,PB h.2,zF];cases c with
  |v s=>exact h.1
  |uA es rows=>rfl
theorem Jw:∀{r:List (List DC)},Yy k r=true->Ys k (Zy r)=true
 | [],_=>rfl
 |c::cs,h=>by
  simp only[Yy,zj]at h;have:=Jw h.2;unfold Zy at this⊢;simp only[zG,Ys,PB h.1,this,zB]
theorem wW.ug(h:fo K η' σ k){w:World}{g:Nat}{o:Obj}{es:Nat}{rs:List (List DC)}(hk:Yy k rs=true)(d:wW K w g o es (XG σ rs)):wW η' w g o es rs:=by
 refine⟨fun i j es' rows gJ=>?_,fun i j i' j' x x' v v' k h1 h2 h3 h4 h5 h6=>?_⟩
 .obtain⟨v,g1,g2,g3⟩:=d.sat i j es' (Xn σ rows) (by rw[V9,gJ];rfl);exact⟨v,g1,g2.ug h (IB hk gJ),g3⟩
 exact d.ne i j i' j' _ _ v v' k (by rw[V9,h1];rfl) (by rw[V9,h2];rfl) h3 h4 h5 h6
theorem uO.ur(h:aT K η' σ){w:World}{i es:Nat}{rs:List (List DC)}{x:Option wZ}(hx:K.get (.loc i)=some x)(d:uO K w (.loc i) es rs):uO η' w (.loc (σ i)) es (XG σ rs):=by
 intro e he;have:=h.get (b:= .loc i) hx;rw[show η'.get (uS σ (.loc i))=some (some e)from he]at this;injection this with this;subst this;obtain⟨h1,h2⟩:=d e hx;exact⟨h1,fun o ho=>(h2 o ho).ur h⟩
theorem vT.ur(h:aT K η' σ){w:World}{own:Bool}{i:Nat}{hp:Hp}(d:vT K w own (.loc i) hp):vT η' w own (.loc (σ i)) (um σ hp):=by
 have hg:∀{x},K.get (.loc i)=some x->η'.get (.loc (σ i))=some x:=fun hx=>h.get (b:= .loc i) hx;cases hp with
 |box row=>
  simp only[vT,um]at d⊢;obtain⟨e,arr,T,fz,h1,h2,h3,h4⟩:=d;exact⟨e,arr,T,fz,hg h1,h2,h3,h4.ur h⟩
 |rows es rs=>
  simp only[vT,um]at d⊢;rcases d with⟨h1,rfl⟩|⟨e,arr,T,fz,h1,h2,h3,h4⟩
  exact .inl ⟨hg h1,rfl⟩
  .refine .inr ⟨e,arr,T,fz,hg h1,h2,by rw[Yb];exact h3,fun j row hr=>?_⟩;rw[X9]at hr;cases hq:rs[j]? with
   |none=>rw[hq]at hr;cases hr
   |some q=>
    rw[hq]at hr;simp only[Option.map_some,zi]at hr;subst hr;rw[Uf];exact⟨(h4 j q hq).1,(h4 j q hq).2.ur h⟩
 |dY vs=>
  simp only[vT,um]at d⊢;obtain⟨e,h1,h2⟩:=d;exact⟨e,hg h1,h2⟩
 |wu s p=>
  simp only[vT,um]at d⊢;obtain⟨e,h1,h2⟩:=d;exact⟨e,hg h1,h2⟩
 |mp rs=>
  simp only[vT,um]at d⊢;obtain⟨e,es,h1,h2,h3,h4,h5⟩:=d;refine⟨e,es,hg h1,h2,h3,by rw[Yb];exact h4,fun j row hr=>?_⟩;rw[X9]at hr;cases hq:rs[j]? with
  |none=>rw[hq]at hr;cases hr
  |some q=>
   rw[hq]at hr;simp only[Option.map_some,zi]at hr;subst hr;obtain⟨en,g1,g2,g3⟩:=h5 j q hq;exact⟨en,g1,g2,g3.ur h⟩
 |jV f=>
  simp only[vT,um]at d⊢;obtain⟨e,h1,h2⟩:=d;exact⟨e,hg h1,h2⟩
 |lp st li fr=>
  simp only[vT,um]at d⊢;obtain⟨e,r,h1,h2,h3,h4⟩:=d;exact⟨e,r,hg h1,h2,h3,h4.ur h⟩
 |kV T t l=>
  simp only[vT,um]at d⊢;obtain⟨e,h1,h2⟩:=d;exact⟨e,hg h1,h2⟩
 |deep mp es rs=>
  cases mp
  .simp only[vT,um,VZ]at d⊢;obtain⟨d1,d2⟩:=d;obtain⟨x,hx,_⟩:=d1.aQ;refine⟨?_,d2.ur h hx⟩;rcases d1 with⟨h1,h0⟩|⟨e,arr,T,fz,h1,h2,h3,h4⟩
   exact .inl ⟨hg h1,by rw[h0];rfl⟩
   .refine .inr ⟨e,arr,T,fz,hg h1,h2,by rw[Yb];exact h3,fun j row hr=>?_⟩;rw[X9]at hr;cases hq:(Zy rs)[j]? with
    |none=>rw[hq]at hr;cases hr
    |some q=>
     rw[hq]at hr;simp only[Option.map_some,zi]at hr;subst hr;rw[Uf];exact⟨(h4 j q hq).1,(h4 j q hq).2.ur h⟩
  .simp only[vT,um,VZ]at d⊢;obtain⟨⟨d1,d0⟩,d2⟩:=d;obtain⟨x,hx,_⟩:=d1.aQ;refine⟨⟨?_,d0⟩,d2.ur h hx⟩;obtain⟨e,es,h1,h2,h3,h4,h5⟩:=d1;refine⟨e,es,hg h1,h2,h3,by rw[Yb];exact h4,fun j row hr=>?_⟩;rw[X9]at hr;cases hq:(Zy rs)[j]? with
   |none=>rw[hq]at hr;cases hr
   |some q=>
    rw[hq]at hr;simp only[Option.map_some,zi]at hr;subst hr;obtain⟨en,g1,g2,g3⟩:=h5 j q hq;exact⟨en,g1,g2,g3.ur h⟩
theorem uM.ug(h:fo K η' σ k){w:World}{own:Bool}{b b':wq}(hg:∀{x},K.get b=some x->η'.get b'=some x){es:Nat}{rs:List (List SV)}(hk:Ys k rs=true)(d:uM K w own b es (Xn σ rs)):uM η' w own b' es rs:=by
 rcases d with⟨h1,h0⟩|⟨e,arr,T,fz,h1,h2,h3,h4⟩
 .refine .inl ⟨hg h1,?_⟩;have:=z8 List.length h0;rw[Yb]at this;exact zM.1 this
 .refine .inr ⟨e,arr,T,fz,hg h1,h2,by rw[Yb]at h3;exact h3,fun j row hr=>?_⟩;obtain⟨p1,p2⟩:=h4 j (uJ σ row) (by rw[X9,hr];rfl);rw[Uf]at p1;exact⟨p1,p2.ug h (J8 hk hr)⟩
theorem jK.ug(h:fo K η' σ k){w:World}{b b':wq}(hg:∀{x},K.get b=some x->η'.get b'=some x){rs:List (List SV)}(hk:Ys k rs=true)(d:jK K w b (Xn σ rs)):jK η' w b' rs:=by
 obtain⟨e,es,h1,h2,h3,h4,h5⟩:=d;refine⟨e,es,hg h1,h2,h3,by rw[Yb]at h4;exact h4,fun j row hr=>?_⟩;obtain⟨en,g1,g2,g3⟩:=h5 j (uJ σ row) (by rw[X9,hr];rfl);exact⟨en,g1,g2,g3.ug h (J8 hk hr)⟩
theorem uO.ug(h:fo K η' σ k){w:World}{b b':wq}(hg:∀{x},K.get b=some x->η'.get b'=some x){es:Nat}{rs:List (List DC)}{x:Option wZ}(hx:K.get b=some x)(hk:Yy k rs=true)(d:uO K w b es (XG σ rs)):uO η' w b' es rs:=by
 intro e he;have:=hg hx;rw[he]at this;injection this with this;subst this;obtain⟨h1,h2⟩:=d e hx;exact⟨h1,fun o ho=>(h2 o ho).ug h hk⟩
theorem vT.ug(h:fo K η' σ k){w:World}{own:Bool}{i:Nat}(hi:i<k){hp:Hp}(hk:Zh k hp=true)(d:vT K w own (.loc (σ i)) (um σ hp)):vT η' w own (.loc i) hp:=by
 have hg:∀{x},K.get (.loc (σ i))=some x->η'.get (.loc i)=some x:=fun hx=>h i _ hi hx;cases hp with
 |box row=>
  simp only[vT,um]at d⊢;obtain⟨e,arr,T,fz,h1,h2,h3,h4⟩:=d;exact⟨e,arr,T,fz,hg h1,h2,h3,h4.ug h hk⟩
 |rows es rs=>
  simp only[vT,um]at d⊢;rcases d with⟨h1,h0⟩|⟨e,arr,T,fz,h1,h2,h3,h4⟩
  .refine .inl ⟨hg h1,?_⟩;have:=z8 List.length h0;rw[Yb]at this;exact zM.1 this
  .refine .inr ⟨e,arr,T,fz,hg h1,h2,by rw[Yb]at h3;exact h3,fun j row hr=>?_⟩;obtain⟨p1,p2⟩:=h4 j (uJ σ row) (by rw[X9,hr];rfl);rw[Uf]at p1;exact⟨p1,p2.ug h (J8 hk hr)⟩
 |dY vs=>
  simp only[vT,um]at d⊢;obtain⟨e,h1,h2⟩:=d;exact⟨e,hg h1,h2⟩
 |wu s p=>
  simp only[vT,um]at d⊢;obtain⟨e,h1,h2⟩:=d;exact⟨e,hg h1,h2⟩
 |mp rs=>
  simp only[vT,um]at d⊢;obtain⟨e,es,h1,h2,h3,h4,h5⟩:=d;refine⟨e,es,hg h1,h2,h3,by rw[Yb]at h4;exact h4,fun j row hr=>?_⟩;obtain⟨en,g1,g2,g3⟩:=h5 j (uJ σ row) (by rw[X9,hr];rfl);exact⟨en,g1,g2,g3.ug h (J8 hk hr)⟩
 |jV f=>
  simp only[vT,um]at d⊢;obtain⟨e,h1,h2⟩:=d;exact⟨e,hg h1,h2⟩
 |lp st li fr=>
  simp only[vT,um]at d⊢;obtain⟨e,r,h1,h2,h3,h4⟩:=d;exact⟨e,r,hg h1,h2,h3,h4.ug h hk⟩
 |kV T t l=>
  simp only[vT,um]at d⊢;obtain⟨e,h1,h2⟩:=d;exact⟨e,hg h1,h2⟩
 |deep mp es rs=>
  cases mp
  .simp only[vT,um,VZ]at d⊢;obtain⟨d1,d2⟩:=d;obtain⟨x,hx,_⟩:=d1.aQ;exact⟨d1.ug h hg (Jw hk),d2.ug h hg hx hk⟩
  .simp only[vT,um,VZ]at d⊢;obtain⟨⟨d1,d0⟩,d2⟩:=d;obtain⟨x,hx,_⟩:=d1.aQ;exact⟨⟨d1.ug h hg (Jw hk),d0⟩,d2.ug h hg hx hk⟩
end
theorem uj.plain{K η':Env}{arr:Array Value}{o:Nat}{row:List SV}(hp:YJ row=true)(d:uj K arr o row):uj η' arr o row:=
 uj.ug (σ:=id) (k:=0) (fun i x hi=>by omega) (ZE 0 hp) (by rw[ZL _ hp];exact d)
theorem J9:∀{rs:List (List SV)} {i:Nat} {row:List SV},Zj rs=true->rs[i]?=some row->YJ row=true
 | [],i,row,_,h=>by simp at h
 |r::rs,0,row,hp,h=>by simp only[Zj,zj]at hp;simp at h;subst h;exact hp.1
 |r::rs,i+1,row,hp,h=>by simp only[Zj,zj]at hp;simp at h;exact J9 hp.2 h
theorem vT.plain{K η':Env}{w:World}{own:Bool}{g:Nat}{h:Hp}(d:vT K w own (.uH g) h)(hp:V2 h=true):vT η' w own (.uH g) h:=by
 cases h with
 |box row=>
  simp only[V2]at hp;simp only[vT]at d⊢;obtain⟨e,arr,T,fz,h1,h2,h3,h4⟩:=d;exact⟨e,arr,T,fz,h1,h2,h3,h4.plain hp⟩
 |rows es rs=>
  simp only[V2]at hp;simp only[vT]at d⊢;rcases d with⟨h1,h2⟩|⟨e,arr,T,fz,h1,h2,h3,h4⟩
  exact .inl ⟨h1,h2⟩;exact .inr ⟨e,arr,T,fz,h1,h2,h3,fun i row hr=>⟨(h4 i row hr).1,(h4 i row hr).2.plain (J9 hp hr)⟩⟩
 |mp rs=>
  simp only[V2]at hp;simp only[vT]at d⊢;obtain⟨e,es,h1,h2,h3,h4,h5⟩:=d;exact⟨e,es,h1,h2,h3,h4,fun i row hr=>let⟨en,g1,g2,g3⟩:=h5 i row hr;⟨en,g1,g2,vV.ug (σ:=id) (k:=0) (fun i x hi=>by omega) (ZE 0 (J9 hp hr)) (by rw[ZL _ (J9 hp hr)];exact g3)⟩⟩
 |wu s p=>exact d
 |dY vs=>exact d
 |jV f=>exact d
 |lp st li fr=>
  simp only[V2]at hp;simp only[vT]at d⊢;obtain⟨e,r,h1,h2,h3,h4⟩:=d;exact⟨e,r,h1,h2,h3,kM.ug (σ:=id) (k:=0) (fun i x hi=>by omega) (US 0 hp) (by rw[Dd _ hp];exact h4)⟩
 |kV T t l=>exact d
 |deep mp es rs=>
  simp only[V2]at hp;have hb:=Jl 0 hp;have hB:fo K η' id 0:=fun i x hi=>by omega
  have e1:XG id rs=rs:=Vy id hp;have hg:∀{x},K.get (.uH g)=some x->η'.get (.uH g)=some x:=fun hx=>hx;rw[<-e1]at d;cases mp
  .simp only[vT,VZ]at d⊢;obtain⟨d1,d2⟩:=d;obtain⟨x,hx,_⟩:=d1.aQ;exact⟨d1.ug hB hg (Jw hb),d2.ug hB hg hx hb⟩
  .simp only[vT,VZ]at d⊢;obtain⟨⟨d1,d0⟩,d2⟩:=d;obtain⟨x,hx,_⟩:=d1.aQ;exact⟨⟨d1.ug hB hg (Jw hb),d0⟩,d2.ug hB hg hx hb⟩
def Ym(K:Env)(w:World)(O:vX):Nat->Prop:=fun g=> ∃i h,u5 i O=some h/\vY K w (.loc i) h g
theorem cB{σ:Nat->Nat}{w:World}{g k:Nat}{h:Hp}:uA w g (um σ h) k<->uA w g h k:=by
 cases h with
 |deep mp es rs=>
  simp only[um,uA];constructor
  .rintro⟨o,i,j,x,v,h1,h2,h3,h4⟩;rw[V9]at h2;obtain⟨y,hy,_⟩:=zC.1 h2;exact⟨o,i,j,y,v,h1,hy,h3,h4⟩
  .rintro⟨o,i,j,x,v,h1,h2,h3,h4⟩;exact⟨o,i,j,_,v,h1,by rw[V9,h2];rfl,h3,h4⟩
 |_=>exact xF
theorem vY.ur{σ:Nat->Nat}{K η':Env}{w:World}{i k:Nat}{h:Hp}(hg:∀x,K[i]?=some x->η'[σ i]?=some x)(f:vY K w (.loc i) h k):vY η' w (.loc (σ i)) (um σ h) k:=
 let⟨e,h1,h2⟩:=f;⟨e,hg _ h1,h2.imp id cB.2⟩
theorem vY.ug{σ:Nat->Nat}{K η':Env}{w:World}{i k:Nat}{h:Hp}(hg:∀x,η'[σ i]?=some x->K[i]?=some x)(f:vY η' w (.loc (σ i)) (um σ h) k):vY K w (.loc i) h k:=
 let⟨e,h1,h2⟩:=f;⟨e,hg _ h1,h2.imp id cB.1⟩
def kr(S:vX):List (wq×Hp):=S.map fun p=>(wq.loc p.1,p.2)
structure vS(P:Program)(T:wU)(f:FuncId)(k:Nat)(args:List SV)(O S:vX)(Q:SV->vX->Nat->Prop):Prop where
 out:∀(M:Mx) (vs:List Value),M.P=P->M.C.T=T->M.F=Ym M.η0 M.w0 O->M.C.S=kr S->vR M M.η0 M.w0 O k->vV M.η0 args vs->
  kq M.P f ⟨vs⟩ M.w0 fun v w'=> ∃r O' vW η',Q r O' vW/\M.η0<+:η'/\vR M η' w' O' vW/\Den η' r v
def UG:Nat->List SV->Fr
 |_,[]=>[]
 |n,v::vs=>(n,v)::UG (n+1) vs
def PC(p:Prop)(_:ux)(k:jm):jm:=fun K=>u6 p (k K)
def PD(rs:List (List SV))(i:Nat)(_:List SV->ux)(f:List SV->jm):jm:=fun K=>GET rs i fun row=>WH row fun row=>f row K
def mG:jm:=fun _=>uF "result"
noncomputable def ux.gv (r:ux):jm:=
 ux.rec (motive:=fun _=>jm) GR (fun _ _=>mG) (fun _ _ _=>mG) (fun _ _ _=>mG) PC PD (fun _ _ _ _ _=>mG) (fun _ _ _ _ _=>mG) (fun _ _ _ _ _=>mG) (fun _ _ _ _=>mG) (fun _ _ _ _=>mG) mG r
abbrev pJ:=(List SV->Prop)->Prop
def IC:pJ:=fun K=>K []
noncomputable def QS (C:Cx)(fr:Fr)(O:vX)(v:ResultVar)(_:List ResultVar)(r:pJ):pJ:=fun K=>match v with
 | .tmp t=>match u5 t fr with
   |some v=>r fun vs=>K (v::vs)
   |none=>uF "result"
 | .cell a t=>match u5 a fr with
   |some p=>(iA C.T (Yn C O) t p).gv fun v=>r fun vs=>K (v::vs)
   |none=>uF "result"
noncomputable def ox (C:Cx)(fr:Fr)(O:vX)(l:List ResultVar):pJ:=List.rec (motive:=fun _=>pJ) IC (QS C fr O) l
def nR:List SV->SV
 | [v]=>v
 |vs=> .uz vs
structure u0(M:Mx)(O:vX)(nx:Nat)(r:SV)(Q:SV->vX->Nat->Prop):Prop where
 out:∀J w v,vR M J w O nx->Den J r v->∃r' O' vW η',Q r' O' vW/\M.η0<+:η'/\vR M η' w O' vW/\Den η' r' v
def QT(M:Mx)(O:vX)(nx:Nat)(Q:SV->vX->Nat->Prop):List SV->Prop
 | [v]=>u0 M O nx v Q
 |vs=>u0 M O nx (.uz vs) Q
theorem PE{M:Mx}{O:vX}{nx:Nat}{Q:SV->vX->Nat->Prop}:∀vs,QT M O nx Q vs=u0 M O nx (nR vs) Q
 | []=>rfl
 | [_]=>rfl
 |_::_::_=>rfl
def iJ:List SV->vX->(vX->Prop)->Prop
 | [],O,K=>K O
 |c::l,O,K=>match c with
  | .ptr (.loc j) _ _ _=>match u5 j O with
    |some (.jV [])=>oP j O fun O=>iJ l O K
    |_=>uF "put off"
  | .val v=>match l with
    | .ptr (.loc j) _ _ _::l'=>match u5 j O with
      |some (.jV f)=>u6 (v=oO f) (oP j O fun O=>iJ l' O K)
      |_=>uF "put off"
    |_=>uF "put off"
  |_=>uF "put off"
def nS(fr:Fr)(O:vX)(K:vX->Prop):Prop:=match u5 DS fr with
 |some v=>match v with
  | .jJ l=>iJ l O K
  |_=>K O
 |none=>K O
def sE(M:Mx)(res:List ResultVar)(Q:SV->vX->Nat->Prop):Post
 | .normal,fr,O,nx=>nS fr O fun O=>ox M.C fr O res fun vs=>QT M O nx Q vs
 | .ret,fr,O,nx=>nS fr O fun O=>ox M.C fr O res fun vs=>QT M O nx Q vs
 | .exit _,_,_,_=>uF "exit"
section
variable {M:Mx}{J:Env}{w:World}{O:vX}{nx:Nat}
theorem ux.ay:∀{r:ux} {K:SV->Prop},r.gv K->∃v,(∀O nx,r.ok O nx v O nx)/\K v
 | .val v,K,h=>by simp only[ux.gv,GR,Yv]at h;exact⟨v,fun _ _=>⟨rfl,rfl,rfl⟩,h⟩
 | .need p k,K,h=>by
   simp only[ux.gv,PC]at h;obtain⟨v,h1,h2⟩:=ux.ay h.k;exact⟨v,fun O nx=>⟨h.p,h1 O nx⟩,h2⟩
 | .get rs i f,K,h=>by
   simp only[ux.gv,PD,JY]at h;obtain⟨row,hr,h⟩:=h.out;obtain⟨v,h1,h2⟩:=ux.ay h;exact⟨v,fun O nx=>⟨row,hr,h1 O nx⟩,h2⟩
 | .new _ _,_,h=>h.out.elim
 | .kZ _ _ _,_,h=>h.out.elim
 | .gU _ _ _,_,h=>h.out.elim
 | .take _ _ _ _,_,h=>h.out.elim
 | .fI _ _ _ _,_,h=>h.out.elim
 | .find _ _ _,_,h=>h.out.elim
 | .findD _ _ _,_,h=>h.out.elim
 | .ite _ _ _,_,h=>h.out.elim
 | .fail,_,h=>h.out.elim
def iK(tmps:Array Value):ResultVar->Sem Value
 | .tmp t=>pure (tmps.getD t undef)
 | .cell c t=>do loadVar t (<-asAddr (tmps.getD c undef))
theorem ID(fn:Func)(tmps:Array Value):results fn tmps=(do let vs<-fn.results.mapM (iK tmps);pure (if h:vs.size=1 then vs[0]else .tuple vs)):=by
 have:(fun x:ResultVar=>match x with|ResultVar.tmp t=>(pure (tmps.getD t undef):Sem Value)|ResultVar.cell c t=>do loadVar t (<-asAddr (tmps.getD c undef)))=iK tmps:=by
  funext x;cases x<;>rfl
 rw[<-this]
 rfl
theorem IE{P:Program}{w:World}{v:Value}{a:Addr}(h:v= .pointer (some a)):(asAddr v).run P w= .ok a w:=by subst h;rfl
theorem Df(hT:uC M.P M.C.T)(H:vR M J w O nx){a:Act}{fr:Fr}(hf:kN J a fr):∀{res:List ResultVar} {K:List SV->Prop},ox M.C fr O res K->
 ∃eD vs,K eD/\vV J eD vs/\(res.mapM (iK a.tmps)).run M.P w= .ok vs w
 | [],K,h=>⟨[],[],h,by simp[vV],rfl⟩
 | .tmp t::r,K,h=>by
   replace h:QS M.C fr O (.tmp t) r (ox M.C fr O r) K:=h
   simp only[QS]at h;split at h
   case h_2=>exact h.out.elim
   rename_i v hv;obtain⟨eD,vs,h1,h2,h3⟩:=Df hT H hf h;refine⟨_,a.tmps.getD t undef::vs,h1,?_,?_⟩;simp only[vV];exact⟨_,_,rfl,hf t v hv,h2⟩;simp only[vK,Sem.run_bind,iK,Sem.run_pure,Result.andThen_ok,h3]
 | .cell c t::r,K,h=>by
   replace h:QS M.C fr O (.cell c t) r (ox M.C fr O r) K:=h
   simp only[QS]at h;split at h
   case h_2=>exact h.out.elim
   rename_i p hp;obtain⟨v,hl,h⟩:=ux.ay h;obtain⟨eD,vs,h1,h2,h3⟩:=Df hT H hf h;obtain⟨_,_,ad,u,h4,h5,h6⟩:=Ov hT H (hf c p hp) (hl O nx);refine⟨_,u::vs,h1,?_,?_⟩;simp only[vV];exact⟨_,_,rfl,h6,h2⟩;simp only[vK,Sem.run_bind,iK,IE h4,Result.andThen_ok,h5,h3,Sem.run_pure]
end
theorem Fe{J:Env}:∀{n:Nat} {args:List SV} {vs:List Value} {t:Nat} {sv:SV},vV J args vs->u5 t (UG n args)=some sv->∃v,n<=t/\vs[t-n]?=some v/\Den J sv v
 |n,[],vs,t,sv,_,h=>by simp[UG,u5]at h
 |n,a::args,vs,t,sv,hd,h=>by
  simp only[vV]at hd;obtain⟨u,us,rfl,h1,h2⟩:=hd;simp only[UG,Z8]at h;split at h
  .rename_i e;subst e;injection h with h;subst h
   exact⟨u,zo _,by simp,h1⟩
  .obtain⟨v,h3,h4,h5⟩:=Fe h2 h;refine⟨v,by omega,?_,h5⟩;rw[show t-n=(t-(n+1))+1 by omega];simpa using h4
theorem vR.drop{M:Mx}{J:Env}{w w':World}{O:vX}{nx:Nat}(H:vR M J w O nx){j:Nat}{h0:Hp}(hj:u5 j O=some h0){e:wZ}(he:J[j]?=some (some e))(wG:∀k, ¬vY J w (.loc j) h0 k->w'.heap[k]?=w.heap[k]?)(hsz:w'.heap.size=w.heap.size)
 (ho:w'.os=w.os) (ht:w'.tape=w.tape) (hp:w'.output=w.output) (ga:w.drawn<=w'.drawn):vR M J w' (uU j O) nx:=by
 have fi:vY J w (.loc j) h0 e.g:=vY.own he
 have back:∀{i h},u5 i (uU j O)=some h->i≠j/\u5 i O=some h:=fun{i h} hi=>by
  have hne:i≠j:=fun e=>by subst e;rw[Yd]at hi;cases hi
  exact⟨hne,by rw[<-XS j O i hne];exact hi⟩
 have keep:∀{i h},u5 i (uU j O)=some h->∀k,vY J w (.loc i) h k->w'.heap[k]?=w.heap[k]?:=fun{i h} hi k f=>wG k fun hk=>H.own.2 i j h h0 k (back hi).2 hj (back hi).1 f hk;have bk:∀{i h},u5 i (uU j O)=some h->∀k,vY J w' (.loc i) h k->vY J w (.loc i) h k:=fun{i h} hi k f=>H.stands zu (back hi).2 (keep hi) f
 refine⟨H.pre,H.len,⟨fun i h hi=>⟨(H.own.1 i h (back hi).2).1.keep (keep hi),fun k f=>(H.own.1 i h (back hi).2).2 k (bk hi k f)⟩,fun i i' h h' k hi hi' hne f f'=>H.own.2 i i' h h' k (back hi).2 (back hi').2 hne (bk hi k f) (bk hi' k f')⟩,
  ⟨ho.trans H.fr.os,ht.trans H.fr.tape,hp.trans H.fr.output,zO H.fr.drawn ga,by rw[hsz];exact H.fr.size,fun k hk hF=>?_⟩,H.wm⟩
 rw[wG k ?_];exact H.fr.block k hk hF
 .intro hke;rcases(H.own.1 j h0 hj).2 k hke with h|h
  exact hF h;omega
theorem IG{f f':List Nat}(h:oO f=oO f'):f=f':=by
 unfold oO at h;simp only[Value.tuple.injEq]at h;exact(List.map_inj_right (fun a b hab=>by simp only[Value.int.injEq,xI]at hab;omega)).1 (z8 Array.toList h)
theorem PF{F:Fence}{P:Program}{fn:Func}{tmps:Array Value}{R:Ending->World->Prop}{ds:List Deferred}:∀{f:List Nat} {w:World},(∀n∈f,w.heap[n]?=some (.deferred (some [])))->f.Nodup->
 (∀w',(∀k,k∉f->w'.heap[k]?=w.heap[k]?)->w'.heap.size=w.heap.size->w'.os=w.os->w'.tape=w.tape->w'.output=w.output->w'.drawn=w.drawn->LeavesInM F 0 P fn tmps R ds .returning w')->LeavesInM F 0 P fn tmps R (rW f++ds) .returning w
 | [],w,_,_,h=>h w (fun _ _=>rfl) rfl rfl rfl rfl rfl
 |n::f,w,hs,hn,h=>by
  have hn':=List.nodup_cons.1 hn;have h6:=hs n (zJ ..);refine⟨(fun h=>by cases h), .inl ⟨n,w.putObj n (.deferred none),rfl,run_takeDeferred h6,?_⟩⟩;refine PF (fun m hm=>?_) hn'.2 fun w' h1 h2 h3 h4 h5 h6=>h w' (fun k hk=>?_) (h2.trans World.putObj_size) h3 h4 h5 h6
  .rw[World.putObj_heap_other (by rintro rfl;exact hn'.1 hm)];exact hs m (zK _ hm)
  .rw[h1 k fun hm=>hk (zK _ hm)];exact World.putObj_heap_other (by rintro rfl;exact hk (zJ ..))
theorem PG{M:Mx}{F:Fence}{P:Program}{fn:Func}{tmps:Array Value}{R:Ending->World->Prop}{J:Env}{nx:Nat}:∀(m:Nat) {l:List SV} {ds:List Deferred} {O:vX} {w:World} {K:vX->Prop},l.length<=m->kW J l ds->vR M J w O nx->iJ l O K->
 (∀w' O',vR M J w' O' nx->K O'->LeavesInM F 0 P fn tmps R [] .returning w')->LeavesInM F 0 P fn tmps R ds .returning w
 |_,[],ds,O,w,K,_,hd,H,h,hK=>by
  simp only[kW]at hd;subst hd;exact hK w O H h
 |0,_::_,ds,O,w,K,hm,hd,H,h,hK=>by simp at hm
 |m+1,c::l,ds,O,w,K,hm,hd,H,h,hK=>by
  have last:∀{j:Nat} {f:List Nat} {e:wZ} {r:List Deferred} {l':List SV},l'.length<=m->u5 j O=some (.jV f)->J[j]?=some (some e)->kW J l' r->iJ l' (uU j O) K->LeavesInM F 0 P fn tmps R (rW f++{target:= .collected e.g,args:= #[]}::r) .returning w:=by
   intro j f e r l' hm' hj h1 h3 h;have hs:=(H.own.1 j _ hj).1;simp only[vT]at hs;obtain⟨e',h4,h5,h6,h7,h8⟩:=hs;rw[show J.get (.loc j)=some (some e)from h1]at h4;injection h4 with h4;injection h4 with h4;subst h4;have h8:=List.nodup_cons.1 h8;refine PF h7 h8.2 fun w1 g1 g2 g3 g4 g5 g6=>?_;have II:w1.heap[e.g]?=some (.deferred (some [])):=(g1 _ h8.1).trans h6;refine⟨(fun h=>by cases h), .inl ⟨e.g,w1.putObj e.g (.deferred none),rfl,run_takeDeferred II,?_⟩⟩;refine PG m hm' h3 (H.drop hj h1 (fun k hk=>?_) (World.putObj_size.trans g2) g3 g4 g5 (by show w.drawn<=w1.drawn;omega)) h hK;rw[World.putObj_heap_other fun e'=>hk ⟨e,h1, .inl e'.symm⟩];exact g1 k fun hm=>hk ⟨e,h1, .inr hm⟩
  simp only[List.length_cons]at hm;unfold iJ at h;split at h
  .rename_i j _ _ _;split at h
   case h_2=>exact h.out.elim
   rename_i hj;rw[XR]at h;simp only[kW]at hd;obtain⟨e,r,h1,rfl,h3⟩:=hd;exact last (f:=[]) (by omega) hj h1 h3 h
  .rename_i v;split at h
   case h_2=>exact h.out.elim
   rename_i j _ _ _ l';split at h
   case h_2=>exact h.out.elim
   rename_i f hj;obtain⟨hv,h⟩:=h;rw[XR]at h;simp only[kW]at hd;obtain⟨f',r',h1,rfl,e,r,h2,rfl,h3⟩:=hd;obtain rfl:=IG (hv.symm.trans h1);exact last (by simp only[List.length_cons]at hm;omega) hj h2 h3 h
  exact h.out.elim
theorem IJ{M:Mx}{F:Fence}{P:Program}{fn:Func}{tmps:Array Value}{R:Ending->World->Prop}{J:Env}{nx:Nat}{fr:Fr}{ds:List Deferred}{O:vX}{w:World}{K:vX->Prop}(hd:qw J ds (u5 DS fr))(H:vR M J w O nx)(h:nS fr O K)
 (hK:∀w' O',vR M J w' O' nx->K O'->LeavesInM F 0 P fn tmps R [] .returning w'):LeavesInM F 0 P fn tmps R ds .returning w:=by
 unfold nS at h;split at h
 .rename_i v hv;rw[hv]at hd;split at h
  exact PG _ (zo _) hd H h hK
  .rename_i hnd
   have:ds=[]:=by
    cases v<;>first|exact hd|exact(hnd _ rfl).elim
   subst this;exact hK w O H h
 .rename_i hv;rw[hv]at hd;have hd:ds=[]:=hd;subst hd;exact hK w O H h
theorem IK{M:Mx}(hT:uC M.P M.C.T){fn:Func}{res:List ResultVar}(hres:fn.results=res.toArray){K:SV->vX->Nat->Prop}{J:Env}{fr:Fr}{O':vX}{nx:Nat}{a:Act}{w':World}(H':vR M J w' O' nx)(hf:kN J a fr)
 (hr:ox M.C fr O' res fun vs=>K (nR vs) O' nx):∃v r,(results fn a.tmps).run M.P w'= .ok v w'/\Den J r v/\K r O' nx:=by
 obtain⟨eD,lX,h1,h2,h3⟩:=Df hT H' hf hr
 have hrun:(results fn a.tmps).run M.P w'= .ok (if h:lX.length=1 then lX[0]'(by omega)else .tuple ⟨lX⟩) w':=by
  have hh:(res.toArray.mapM (iK a.tmps)).run M.P w'= .ok ⟨lX⟩ w':=by
   rw[Array.mapM_eq_mapM_toList];simp only[Sem.run_map,h3,Result.andThen_ok]
  rw[ID,hres];simp only[Sem.run_bind,hh,Result.andThen_ok,Sem.run_pure]
  rfl
 have gb:Den J (nR eD) (if h:lX.length=1 then lX[0]'(by omega)else .tuple ⟨lX⟩):=by
  have hl:=ZU h2
  match eD,h2,hl with
  | [],h2,hl=>
    simp only[vV]at h2;subst h2;simp only[nR,Den,vV];exact⟨[],by simp,rfl⟩
  | [s],h2,hl=>
    simp only[vV]at h2;obtain⟨u,us,rfl,h4,rfl⟩:=h2;simpa[nR]using h4
  |s::s'::r,h2,hl=>
   simp only[List.length_cons]at hl;rw[yQ (by omega)];simp only[nR,Den];exact⟨lX,rfl,h2⟩
 exact⟨_,_,hrun,gb,h1⟩
theorem Dg{M:Mx}(hT:uC M.P M.C.T){fn:Func}{res:List ResultVar}(hres:fn.results=res.toArray){K:SV->vX->Nat->Prop}{J:Env}{fr:Fr}{O:vX}{nx:Nat}{a:Act}{w:World}(hm:u7 M J fr O nx a w)
 (h:nS fr O fun O=>ox M.C fr O res fun vs=>K (nR vs) O nx) {R:Ending->World->Prop} (hR:∀w' O' v r,vR M J w' O' nx->Den J r v->K r O' nx->R (.returned v) w'):LeavesInM Fence.wide 0 M.P fn a.tmps R a.defers .returning w:=by
 refine IJ hm.defers hm.heap h fun w' O' H' hr=>?_;obtain⟨v,r,h1,h2,h3⟩:=IK hT hres H' hm.frame hr;exact⟨_,h1,hR w' O' _ _ H' h2 h3⟩
theorem IL{n:Nat}{args:List SV}{t:Nat}{v:SV}(h:u5 t (UG n args)=some v):n<=t/\t<n+args.length:=by
 induction args generalizing n with
 |nil=>simp[UG,u5]at h
 |cons a l ih=>
  simp only[UG,Z8]at h;split at h
  rename_i e;subst e;simp;have:=ih h;simp only[List.length_cons];omega
theorem Dh{J:Env}{args:List SV}(h:args.length<=DS):qw J [] (u5 DS (UG 0 args)):=by
 cases hv:u5 DS (UG 0 args)with
 |none=>exact rfl
 |some v=>have:=IL hv;omega
structure fR(G:World->Prop)(P:Program)(T:wU)(f:FuncId)(k:Nat)(args:List SV)(O S:vX)(Q:SV->vX->Nat->Prop):Prop where
 out:∀(M:Mx) (vs:List Value),M.P=P->M.C.T=T->M.F=Ym M.η0 M.w0 O->M.C.S=kr S->vR M M.η0 M.w0 O k->vV M.η0 args vs->G M.w0->
  kq M.P f ⟨vs⟩ M.w0 fun v w'=> ∃r O' vW η',Q r O' vW/\M.η0<+:η'/\vR M η' w' O' vW/\Den η' r v
theorem vS.gl{G:World->Prop}{P:Program}{T:wU}{f g:FuncId}{k:Nat}{args:List SV}{O S:vX}{Q:SV->vX->Nat->Prop}{fn:Func}{c:Code}(hT:uC P T)(jO:∀args w,(callFunc f args).run P w= .ok (.enter g args) w)
 (hf:P.funcs[g]?=some fn) (hb:fn.body=some c) (N:Nat) (hN:fn.ntmps=N) (hlen:Nat.ble args.length N=true) (res:List ResultVar) (hres:fn.results=res.toArray)
 (h:∀w0 F η0,η0.length=k->G w0->F=Ym η0 w0 O->run ⟨P,⟨T,N,kr S,none⟩,w0,F,η0,none⟩ c (UG 0 args) O k (sE ⟨P,⟨T,N,kr S,none⟩,w0,F,η0,none⟩ res Q)) (bp:Nat.ble N DS=true:=by rfl):fR G P T f k args O S Q:=by
 refine⟨fun M vs hP cD hF hS H hd hG=> .inl ⟨g,by rw[hP];exact jO _ _,?_⟩⟩;obtain⟨P',⟨T',N',S',pK⟩,w0,F,η0,nT⟩:=M;simp only at hP cD hF hS H hd hG⊢;subst hP cD hS;have hk:η0.length=k:=H.len;have H':vR ⟨P',⟨T',N,kr S,none⟩,w0,F,η0,none⟩ η0 w0 O k:=⟨H.pre,H.len,H.own,H.fr,H.wm⟩;have hl:=ZU hd;refine callsIn_wide (n:=0)|>.1 (callsIn_of_wp_marks hf hb trivial ?_)
 have hm:u7 ⟨P',⟨T',N,kr S,none⟩,w0,F,η0,none⟩ η0 (UG 0 args) O k {tmps:=⟨vs⟩++Array.replicate (fn.ntmps-(Array.mk vs).size) undef,defers:=[]} w0:=by
  refine⟨H',?_,zU bp,Dh (zO (zU hlen) (zU bp)),(fun l j h=>by cases h),?_⟩
  .have:=zU hlen;simp only[vQ,Array.size_replicate,hN,ye];show vs.length+(N-vs.length)=N
   omega
  .intro t sv ht;obtain⟨v,_,h1,h2⟩:=Fe hd ht;have hlt:=(ze.1 h1).1;simp only[Nat.sub_zero]at h1 hlt;rw[zZ,y9 (by simpa using hlt)];have:(Array.mk vs)[t]?=some v:=by simpa using h1
   rw[this];exact h2
 refine Code.wpIn_mono ?_ (Y5 hT c (h w0 F η0 hk hG hF) η0 _ w0 hm)
 have fin:∀{η1:Env} {qV:Fr} {O1:vX} {kK:Nat} {a:Act} {w1:World},u7 ⟨P',⟨T',N,kr S,none⟩,w0,F,η0,none⟩ η1 qV O1 kK a w1->(nS qV O1 fun O1=>ox ⟨T',N,kr S,none⟩ qV O1 res fun vs=>QT ⟨P',⟨T',N,kr S,none⟩,w0,F,η0,none⟩ O1 kK Q vs)->
  LeavesInM Fence.wide 0 P' fn a.tmps (fun e w'=> ∃v,e= .returned v/\∃r O' vW η',Q r O' vW/\η0<+:η'/\vR ⟨P',⟨T',N',kr S,pK⟩,w0,F,η0,nT⟩ η' w' O' vW/\Den η' r v) a.defers .returning w1:=by
  intro η1 qV O1 kK a w1 qy hr;refine Dg (M:=⟨P',⟨T',N,kr S,none⟩,w0,F,η0,none⟩) (K:=fun r O nx=>u0 ⟨P',⟨T',N,kr S,none⟩,w0,F,η0,none⟩ O nx r Q) hT hres qy (by simpa only[PE]using hr) fun w2 O2 v r H2 hd2 hk=>?_;obtain⟨r',O',vW,η',h5,h6,h7,h8⟩:=hk.out η1 w2 v H2 hd2;exact⟨v,rfl,r',O',vW,η',h5,h6,⟨h7.pre,h7.len,h7.own,h7.fr,h7.wm⟩,h8⟩
 intro e a w hq;cases e with
 |normal=>obtain⟨η1,qV,O1,kK,qy,hq⟩:=hq;exact fin qy hq
 |ret=>obtain⟨η1,qV,O1,kK,qy,hq⟩:=hq;exact fin qy hq
 |exit id=>obtain⟨η1,qV,O1,kK,qy,hq⟩:=hq;exact hq.out.elim
 |goto l=>exact hq.elim
 |panic ch=>obtain⟨_,_,hn,_⟩:=hq;cases hn
 |outgrown=>exact hq.elim
theorem vS.enter{P:Program}{T:wU}{f g:FuncId}{k:Nat}{args:List SV}{O S:vX}{Q:SV->vX->Nat->Prop}{fn:Func}{c:Code}(hT:uC P T)(jO:∀args w,(callFunc f args).run P w= .ok (.enter g args) w)
 (hf:P.funcs[g]?=some fn) (hb:fn.body=some c) (N:Nat) (hN:fn.ntmps=N) (hlen:Nat.ble args.length N=true) (res:List ResultVar) (hres:fn.results=res.toArray)
 (h:∀w0 F η0,η0.length=k->run ⟨P,⟨T,N,kr S,none⟩,w0,F,η0,none⟩ c (UG 0 args) O k (sE ⟨P,⟨T,N,kr S,none⟩,w0,F,η0,none⟩ res Q)) (bp:Nat.ble N DS=true:=by rfl):vS P T f k args O S Q:=
 ⟨fun M vs a1 a2 a3 a4 a5 a6=>(vS.gl (G:=fun _=>True) hT jO hf hb N hN hlen res hres (fun w0 F η0 hk _ _=>h w0 F η0 hk) bp).out M vs a1 a2 a3 a4 a5 a6 trivial⟩
theorem IF.tt{J:Type}{A B:J->Prop}{j:J}(h:A j):IF true A B j:=⟨fun _=>h,fun e=>by cases e⟩
theorem IF.ff{J:Type}{A B:J->Prop}{j:J}(h:B j):IF false A B j:=⟨fun e=>(by cases e),fun _=>h⟩
theorem IF.yes{J:Type}{b:Bool}{A B:J->Prop}{j:J}(e:b=true)(h:A j):IF b A B j:=⟨fun _=>h,fun e'=>by rw[e]at e';cases e'⟩
theorem IF.no{J:Type}{b:Bool}{A B:J->Prop}{j:J}(e:b=false)(h:B j):IF b A B j:=⟨fun e'=>(by rw[e]at e';cases e'),fun _=>h⟩
theorem GET.at{rs:List (List SV)}{i:Nat}{K:List SV->Prop}{row:List SV}(h:rs[i]?=some row)(k:K row):GET rs i K:=⟨row,h,k⟩
theorem GET.map{V:Type}{f:V->List SV}{xs:List V}{i:Nat}{K:List SV->Prop}(h:i<xs.length)(k:K (f xs[i])):GET (xs.map f) i K:=⟨f xs[i],by simp[z1 h],k⟩
theorem gZ.map{V:Type}[Inhabited V]{f:V->List SV}{xs:List V}{i:Nat}{g:Prop}{K:List SV->Prop}(h:g->i<xs.length)(k:K (f (xs.getD i default))):gZ g (xs.map f) i K:=
 ⟨f (xs.getD i default),fun hg=>by have:=h hg;simp[z1 this,List.getD],k⟩
def Zm(L:List Nat)(nx:Nat)(j:Nat):Nat:=if j<L.length then L.getD j 0 else nx+(j-L.length)
def ZY(ks:List Nat):vX->vX
 | []=>[]
 |(i,h)::r=>match ks.any (Nat.beq i)with|true=>ZY ks r|false=>(i,h)::ZY ks r
def qa(σ:Nat->Nat):vX->vX
 | []=>[]
 |(i,h)::r=>(σ i,um σ h)::qa σ r
def Zb:vX->List Nat
 | []=>[]
 |(i,_)::r=>i::Zb r
theorem Ja{O:vX}{i:Nat}{h:Hp}(hi:u5 i O=some h):i∈Zb O:=by
 induction O with
 |nil=>simp[u5]at hi
 |cons p O ih=>
  obtain⟨j,g⟩:=p;rw[Z8]at hi;split at hi
  rename_i e;subst e;exact zJ ..;exact zK _ (ih hi)
theorem Di{ks:List Nat}:∀{O:vX} {i:Nat} {h:Hp},u5 i (ZY ks O)=some h->i∉ks/\u5 i O=some h
 | [],i,h,hi=>by simp[ZY,u5]at hi
 |(j,g)::O,i,h,hi=>by
  unfold ZY at hi
  have QU:ks.any (Nat.beq j)=true<->j∈ks:=by
   rw[xH];exact⟨fun⟨x,hx,hb⟩=>by rw[Zr hb];exact hx,fun h=>⟨j,h,Xh j⟩⟩
  split at hi
  .rename_i hk;obtain⟨h1,h2⟩:=Di hi;refine⟨h1,?_⟩;rw[Z8,z7 ?_];exact h2;intro e;subst e;exact h1 (QU.1 hk)
  .rename_i hk;rw[Z8]at hi;split at hi
   .rename_i e;subst e;injection hi with hi;subst hi;refine⟨fun h=>?_,by rw[Z8,zf rfl]⟩;rw[QU.2 h]at hk;cases hk
   .rename_i e;obtain⟨h1,h2⟩:=Di hi;exact⟨h1,by rw[Z8,z7 e];exact h2⟩
theorem PI{σ:Nat->Nat}:∀{O:vX} {i:Nat} {h:Hp},u5 i (qa σ O)=some h->∃j g,u5 j O=some g/\σ j=i/\h=um σ g
 | [],i,h,hi=>by simp[qa,u5]at hi
 |(j,g)::O,i,h,hi=>by
  simp only[qa]at hi;rw[Z8]at hi;split at hi
  .rename_i e;injection hi with hi;exact⟨j,g,by rw[Z8,zf rfl],e.symm,hi.symm⟩
  .rename_i e;obtain⟨j1,g1,h1,h2,h3⟩:=PI hi;have hne:j1≠j:=by intro e';subst e';exact e h2.symm
   exact⟨j1,g1,by rw[Z8,z7 hne];exact h1,h2,h3⟩
theorem Jb{V:Type}{xs ys:List (Nat×V)}{i:Nat}{v:V}(h:u5 i (xs++ys)=some v):u5 i xs=some v\/(u5 i xs=none/\u5 i ys=some v):=by
 induction xs with
 |nil=>exact .inr ⟨rfl,h⟩
 |cons p xs ih=>
  obtain⟨j,u⟩:=p;rw[List.cons_append,Z8]at h;rw[Z8];split at h
  rename_i e;rw[zf e];exact .inl h;rename_i e;rw[z7 e];exact ih h
theorem kq.mono{P:Program}{f:FuncId}{args:Array Value}{w:World}{R R':Value->World->Prop}(h:kq P f args w R)(hr:∀v w',R v w'->R' v w'):kq P f args w R':=by
 rcases h with⟨g,h1,h2⟩|⟨v,w',h1,h2⟩
 exact .inl ⟨g,h1,h2.mono fun e w' ⟨v,h3,h4⟩=>⟨v,h3,hr v w' h4⟩⟩;exact .inr ⟨v,w',h1,hr v w' h2⟩
theorem IP{S:vX}{b:wq}{h:Hp}(hb:qv b (kr S)=some h):∃j,b= .loc j/\(j,h)∈S:=by
 induction S with
 |nil=>simp[kr,qv]at hb
 |cons p S ih=>
  obtain⟨j,g⟩:=p;simp only[kr,zG,qv]at hb;split at hb
  .rename_i e;injection hb with hb;subst hb;exact⟨j,aP.1 e,zJ ..⟩
  .obtain⟨j',h1,h2⟩:=ih hb;exact⟨j',h1,zK _ h2⟩
theorem Dj{M:Mx}{args:List SV}{O:vX}{nx k:Nat}{uD:List SV}{Oc Sc:vX}(L:List Nat)
 (hL:L.length=k) (eG:∀i∈L,i<nx) (ha:args=uJ (Zm L nx) uD) (hb:ZR k uD=true)
 (hO:∀p∈Oc,p.1<k/\u5 (Zm L nx p.1) O=some (um (Zm L nx) p.2)/\Zh k p.2=true)
 (sF:∀j∈Zb Oc,∀j'∈Zb Oc,Zm L nx j=Zm L nx j'->j=j')
 (hS:∀p∈Sc,p.1<k/\Yn M.C O (.loc (Zm L nx p.1))=some (um (Zm L nx) p.2)/\Zh k p.2=true/\Zm L nx p.1∉ (Zb Oc).map (Zm L nx)) {Y:Env} {w:World} {vs:List Value} (H:vR M Y w O nx) (hd:vV Y args vs):
 ∃Mc:Mx,Mc.P=M.P/\Mc.C.T=M.C.T/\Mc.F=Ym Mc.η0 Mc.w0 Oc/\Mc.C.S=kr Sc/\Mc.w0=w/\vR Mc Mc.η0 Mc.w0 Oc k/\vV Mc.η0 uD vs/\
  ∀r O' vW η' v w',Mc.η0<+:η'->vR Mc η' w' O' vW->Den η' r v->∃η2,Y<+:η2/\vR M η2 w' (qa (Zm L nx) O'++ZY ((Zb Oc).map (Zm L nx)) O) (nx+(vW-k))/\Den η2 (ur (Zm L nx) r) v:=by
 generalize hσ:Zm L nx=σ at*
 have hσlt:∀j,j<k->∃y,L[j]?=some (σ j)/\σ j<nx/\Y[σ j]?=some y:=by
  intro j hj;have hj':j<L.length:=by omega
  have e:σ j=L[j]:=by rw[<-hσ];simp[Zm,hj',List.getD]
  have hlt:σ j<nx:=by rw[e];exact eG _ (zk hj')
  refine⟨Y[σ j]'(by rw[H.len];exact hlt),by rw[e];exact z1 hj',hlt,z1 _⟩
 have hσge:∀j,k<=j->σ j=nx+(j-k):=by
  intro j hj;rw[<-hσ];simp only[Zm,hL];rw[z7 (by omega)]
 obtain⟨ηc,hηc⟩:∃ηc:Env,ηc=L.map (fun i=>(Y[i]?).getD none):=⟨_,rfl⟩;have pL:ηc.length=k:=by rw[hηc];simp[hL]
 have pM:∀j,j<k->ηc[j]?=Y[σ j]?:=by
  intro j hj;obtain⟨y,h1,h2,h3⟩:=hσlt j hj;rw[hηc,z6,h1];simp[h3]
 have fS:fo Y ηc σ k:=fun j x hj hx=>by rw[pM j hj];exact hx
 have hdc:vV ηc uD vs:=vV.ug fS hb (by rw[<-ha];exact hd);have nU:∀j h,u5 j Oc=some h->j<k/\u5 (σ j) O=some (um σ h)/\Zh k h=true:=fun j h hj=>hO (j,h) (UR hj);have hto:∀{j:Nat},j<k->∀{h:Hp} {w:World} {n:Nat},vY ηc w (.loc j) h n->vY Y w (.loc (σ j)) (um σ h) n:=fun{j} hj {h w n} f=>f.ur fun x hx=>by rw[<-pM j hj];exact hx
 have hF:∀n,Ym ηc w Oc n->∃j h,u5 j Oc=some h/\vY Y w (.loc (σ j)) (um σ h) n/\(M.F n\/M.w0.heap.size<=n):=by
  rintro n ⟨j,h,h1,f⟩;obtain⟨p1,p2,_⟩:=nU j h h1;exact⟨j,h,h1,hto p1 f,(H.own.1 _ _ p2).2 n (hto p1 f)⟩
 have Hc:vR {P:=M.P,C:={M.C with S:=kr Sc},w0:=w,F:=Ym ηc w Oc,η0:=ηc} ηc w Oc k:=by
  refine⟨zu,pL,⟨?_,?_⟩,qW.refl _ _,?_⟩
  .intro j h hj;obtain⟨p1,p2,p3⟩:=nU j h hj;exact⟨(H.own.1 _ _ p2).1.ug fS p1 p3,fun n f=> .inl ⟨j,h,hj,f⟩⟩
  .intro j j' h h' n hj hj' hne f f';obtain⟨p1,p2,_⟩:=nU j h hj;obtain⟨q1,q2,_⟩:=nU j' h' hj';exact H.own.2 _ _ _ _ n p2 q2 (fun hh=>hne (sF j (Ja hj) j' (Ja hj') hh)) (hto p1 f) (hto q1 f')
  .intro b h kP;cases b with
   |uH g=>
    have hp:V2 h=true:=zT.1 M.C.T.dA (g,h) (UR kP);obtain⟨s1,s2⟩:=H.wm (.uH g) h kP;refine⟨(H.shared (b:= .uH g) kP).plain hp,fun n f=>?_⟩;obtain⟨t1,t2⟩:=s2 g ⟨⟨g,0,0⟩,rfl, .inl rfl⟩;have hw:w.heap[g]?=M.w0.heap[g]?:=H.fr.block g t1 t2
    have f0:vY M.η0 M.w0 (.uH g) h n:=by
     obtain⟨e,h1,h2⟩:=f;cases h1
     exact⟨⟨g,0,0⟩,rfl,h2.imp id fun h=>h.keep hw⟩
    obtain⟨t1,t2⟩:=s2 n f0;refine⟨yH t1 H.fr.size,fun QV=>?_⟩;obtain⟨_,_,_,_,q4⟩:=hF _ QV;rcases q4 with q4|q4
    exact t2 q4;omega
   |loc j0=>
   obtain⟨j,hj0,hm⟩:=IP kP;injection hj0 with hj0;subst j0;obtain⟨p1,p2,p3,p4⟩:=hS (j,h) hm;simp only at p1 p2 p3 p4;refine⟨(H.look p2).ug fS p1 p3,fun n f=>?_⟩;have f1:=hto p1 f;refine⟨(H.look p2).uy f1,fun QV=>?_⟩;obtain⟨j',h',q1,fq,q4⟩:=hF _ QV;obtain⟨r1,r2,_⟩:=nU j' h' q1;simp only[Yn]at p2;cases ho:u5 (σ j) O with
   |some g=>
    have hne:σ j'≠σ j:=fun hh=>p4 (by rw[<-hh];exact vB (Ja q1));rw[ho]at p2;injection p2 with p2;subst p2;exact H.own.2 _ _ _ _ n r2 ho hne fq f1
   |none=>
    rw[ho]at p2;obtain⟨s1,s2⟩:=H.wm (.loc (σ j)) _ p2;obtain⟨x',hx',_⟩:=s1.lt;have f2:vY M.η0 M.w0 (.loc (σ j)) (um σ h) n:=(f1.less H.pre hx').keep fun e he=>H.fr.block e.g (s2 e.g (vY.own he)).1 (s2 e.g (vY.own he)).2;obtain⟨t1,t2⟩:=s2 n f2;rcases q4 with q4|q4
    exact t2 q4;omega
 refine⟨{P:=M.P,C:={M.C with S:=kr Sc},w0:=w,F:=Ym ηc w Oc,η0:=ηc},rfl,rfl,rfl,rfl,rfl,Hc,hdc,?_⟩;intro r O' vW η' v w' hpre H' ga;have hk':k<=vW:=by rw[<-H'.len,<-pL];exact hpre.length_le
 have sH:aT η' (Y++η'.drop k) σ:=by
  intro i x hx;by_cases hi:i<k
  .obtain⟨y,h1,h2,h3⟩:=hσlt i hi;rw[zn (by rw[H.len];exact h2)]
   have:η'[i]?=ηc[i]?:=by
    obtain⟨t,rfl⟩:=hpre;rw[zn (by rw[pL];exact hi)]
   rw[<-pM i hi,<-this];exact hx
  .rw[hσge i (by omega),zw (by rw[H.len];omega),H.len,y6];rw[show k+(nx+(i-k)-nx)=i by omega];exact hx
 have az:Y<+:Y++η'.drop k:=zz _ _;have hfr:qW w w' (Ym ηc w Oc):=H'.fr;refine⟨Y++η'.drop k,az,?_,ga.ur sH⟩
 have hin:∀{i h},u5 i (qa σ O')=some h->∃j g,u5 j O'=some g/\σ j=i/\h=um σ g/\vT (Y++η'.drop k) w' true (.loc i) h/\∀n,vY (Y++η'.drop k) w' (.loc i) h n->vY η' w' (.loc j) g n/\(Ym ηc w Oc n\/w.heap.size<=n):=by
  intro i h hi;obtain⟨j,g,h1,h2,h3⟩:=PI hi;obtain⟨p1,p2⟩:=H'.own.1 j g h1;obtain⟨x,hx,_⟩:=p1.lt;have hx':(Y++η'.drop k)[σ j]?=some x:=sH j x hx;refine⟨j,g,h1,h2,h3,?_,?_⟩;rw[h3,<-h2];exact p1.ur sH
  .intro n f;rw[h3,<-h2]at f;have f':vY η' w' (.loc j) g n:=f.ug fun y hy=>by rw[hx']at hy;injection hy with hy;rw[<-hy];exact hx
   exact⟨f',p2 n f'⟩
 have hout:∀{i h},u5 i (ZY ((Zb Oc).map σ) O)=some h->u5 i O=some h/\∀n,vY Y w (.loc i) h n->n<w.heap.size/\¬Ym ηc w Oc n:=by
  intro i h hi;obtain⟨h1,h2⟩:=Di hi;refine⟨h2,fun n f=>⟨(H.own.1 i h h2).1.uy f,fun QV=>?_⟩⟩;obtain⟨j',h',q1,fq,q4⟩:=hF _ QV;obtain⟨r1,r2,_⟩:=nU j' h' q1;have hne:σ j'≠i:=fun hh=>h1 (by rw[<-hh];exact vB (Ja q1));exact H.own.2 _ _ _ _ n r2 h2 hne fq f
 have hkeep:∀{i h},u5 i (ZY ((Zb Oc).map σ) O)=some h->∀n,vY Y w (.loc i) h n->w'.heap[n]?=w.heap[n]?:=fun hi n f=>hfr.block n ((hout hi).2 n f).1 ((hout hi).2 n f).2;have cE:∀{i h},u5 i (ZY ((Zb Oc).map σ) O)=some h->∀n,vY (Y++η'.drop k) w' (.loc i) h n->vY Y w (.loc i) h n:=fun hi n f=>H.stands az (hout hi).1 (hkeep hi) f;refine⟨H.pre.trans az,?_,⟨?_,?_⟩,H.fr.trans hfr (fun n hn=>let⟨_,_,_,_,h⟩:=hF n hn;h),H.wm⟩;rw[zh,zD,H.len,H'.len]
 .intro i h hi;rcases Jb hi with hi|⟨_,hi⟩
  .obtain⟨j,g,h1,h2,h3,h4,h5⟩:=hin hi;refine⟨h4,fun n f=>?_⟩;rcases(h5 n f).2 with hb'|hb'
   obtain⟨_,_,_,_,hh⟩:=hF _ hb';exact hh;exact .inr (zO H.fr.size hb')
  .have h3:=H.own.1 i h (hout hi).1;exact⟨(h3.1.keep (hkeep hi)).mono az,fun n f=>h3.2 n (cE hi n f)⟩
 .intro i i' h h' n hi hi' hne f f';rcases Jb hi with hi|⟨_,hi⟩<;>rcases Jb hi' with hi'|⟨_,hi'⟩
  .obtain⟨j,g,h1,h2,h3,h4,h5⟩:=hin hi;obtain⟨j',g',kS,iL,Ff,h4',IQ⟩:=hin hi';exact H'.own.2 j j' g g' n h1 kS (fun hj=>hne (by rw[<-h2,<-iL,hj])) (h5 n f).1 (IQ n f').1
  .obtain⟨j,g,h1,h2,h3,h4,h5⟩:=hin hi;obtain⟨h7,h8⟩:=(hout hi').2 n (cE hi' n f');rcases(h5 n f).2 with hb'|hb'
   exact h8 hb';omega
  .obtain⟨j,g,h1,h2,h3,h4,h5⟩:=hin hi';obtain⟨h7,h8⟩:=(hout hi).2 n (cE hi n f);rcases(h5 n f').2 with hb'|hb'
   exact h8 hb';omega
  exact H.own.2 i i' h h' n (hout hi).1 (hout hi').1 hne (cE hi n f) (cE hi' n f')
theorem CALL.of{M:Mx}{f:FuncId}{args:List SV}{O:vX}{nx:Nat}{K:SV->vX->Nat->Prop}{k:Nat}{uD:List SV}{Oc Sc:vX}{Q:SV->vX->Nat->Prop}(L:List Nat)(sp:vS M.P M.C.T f k uD Oc Sc Q)
 (hL:L.length=k) (eG:∀i∈L,i<nx) (ha:args=uJ (Zm L nx) uD) (hb:ZR k uD=true)
 (hO:∀p∈Oc,p.1<k/\u5 (Zm L nx p.1) O=some (um (Zm L nx) p.2)/\Zh k p.2=true)
 (sF:∀j∈Zb Oc,∀j'∈Zb Oc,Zm L nx j=Zm L nx j'->j=j')
 (hS:∀p∈Sc,p.1<k/\Yn M.C O (.loc (Zm L nx p.1))=some (um (Zm L nx) p.2)/\Zh k p.2=true/\Zm L nx p.1∉ (Zb Oc).map (Zm L nx))
 (hK:∀r O' vW,Q r O' vW->K (ur (Zm L nx) r) (qa (Zm L nx) O'++ZY ((Zb Oc).map (Zm L nx)) O) (nx+(vW-k))):CALL M f args O nx K:=by
 refine⟨fun Y w vs H hd=>?_⟩;obtain⟨Mc,h1,h2,h3,h4,h5,h6,h7,h8⟩:=Dj L hL eG ha hb hO sF hS H hd;refine(h1▸h5▸(sp.out Mc vs h1 h2 h3 h4 h6 h7)).mono ?_;rintro v w' ⟨r,O',vW,η',hq,hpre,H',ga⟩;obtain⟨η2,k1,k2,k3⟩:=h8 r O' vW η' v w' hpre H' ga;exact⟨_,_,_,η2,k1,k2,k3,hK r O' vW hq⟩
structure cF(P:Program)(T:wU)(f:FuncId)(k:Nat)(args:List SV)(O S:vX)(Q X:SV->vX->Nat->Prop):Prop where
 out:∀(M:Mx) (vs:List Value),M.P=P->M.C.T=T->M.F=Ym M.η0 M.w0 O->M.C.S=kr S->vR M M.η0 M.w0 O k->vV M.η0 args vs->
  kO M.P f ⟨vs⟩ M.w0 (fun v w'=> ∃r O' vW η',Q r O' vW/\M.η0<+:η'/\vR M η' w' O' vW/\Den η' r v) fun v w'=> ∃r O' vW η',X r O' vW/\M.η0<+:η'/\vR M η' w' O' vW/\Den η' r v
theorem kO.mono{P:Program}{f:FuncId}{args:Array Value}{w:World}{R R' X X':Value->World->Prop}(h:kO P f args w R X)(hr:∀v w',R v w'->R' v w')(hx:∀v w',X v w'->X' v w'):kO P f args w R' X':=by
 rcases h with⟨g,h1,h2⟩|⟨v,w',h1,h2⟩
 exact .inl ⟨g,h1,h2.mono fun e w' h=>h.elim (fun⟨v,h3,h4⟩=> .inl ⟨v,h3,hr v w' h4⟩) fun⟨v,h3,h4⟩=> .inr ⟨v,h3,hx v w' h4⟩⟩;exact .inr ⟨v,w',h1,hr v w' h2⟩
abbrev Mx.pan(M:Mx)(X:SV->vX->Nat->Prop):Mx:={M with px:=some ([],fun v O nx=>u0 M O nx v X)}
theorem cF.enter{P:Program}{T:wU}{f g:FuncId}{k:Nat}{args:List SV}{O S:vX}{Q X:SV->vX->Nat->Prop}{fn:Func}{c:Code}(hT:uC P T)(jO:∀args w,(callFunc f args).run P w= .ok (.enter g args) w)
 (hf:P.funcs[g]?=some fn) (hb:fn.body=some c) (N:Nat) (hN:fn.ntmps=N) (hlen:Nat.ble args.length N=true) (res:List ResultVar) (hres:fn.results=res.toArray)
 (h:∀w0 F η0,η0.length=k->run ⟨P,⟨T,N,kr S,none⟩,w0,F,η0,some ([],fun v O nx=>u0 ⟨P,⟨T,N,kr S,none⟩,w0,F,η0,none⟩ O nx v X)⟩ c (UG 0 args) O k (sE ⟨P,⟨T,N,kr S,none⟩,w0,F,η0,none⟩ res Q)) (bp:Nat.ble N DS=true:=by rfl):cF P T f k args O S Q X:=by
 refine⟨fun M vs hP cD hF hS H hd=> .inl ⟨g,by rw[hP];exact jO _ _,?_⟩⟩;obtain⟨P',⟨T',N',S',pK⟩,w0,F,η0,nT⟩:=M;simp only at hP cD hF hS H hd⊢;subst hP cD hS;have hk:η0.length=k:=H.len;obtain⟨px,hpx⟩:∃px,px=some (([]:Fr),fun(v:SV) (O:vX) (nx:Nat)=>u0 ⟨P',⟨T',N,kr S,none⟩,w0,F,η0,none⟩ O nx v X):=⟨_,rfl⟩;have H':vR ⟨P',⟨T',N,kr S,none⟩,w0,F,η0,px⟩ η0 w0 O k:=⟨H.pre,H.len,H.own,H.fr,H.wm⟩;have hl:=ZU hd;refine callsIn_wide (n:=0)|>.1 (callsIn_of_wp_marks hf hb trivial ?_)
 have hm:u7 ⟨P',⟨T',N,kr S,none⟩,w0,F,η0,px⟩ η0 (UG 0 args) O k {tmps:=⟨vs⟩++Array.replicate (fn.ntmps-(Array.mk vs).size) undef,defers:=[]} w0:=by
  refine⟨H',?_,zU bp,Dh (zO (zU hlen) (zU bp)),(fun l j h=>by cases h),?_⟩
  .have:=zU hlen;simp only[vQ,Array.size_replicate,hN,ye];show vs.length+(N-vs.length)=N
   omega
  .intro t sv ht;obtain⟨v,_,h1,h2⟩:=Fe hd ht;have hlt:=(ze.1 h1).1;simp only[Nat.sub_zero]at h1 hlt;rw[zZ,y9 (by simpa using hlt)];have:(Array.mk vs)[t]?=some v:=by simpa using h1
   rw[this];exact h2
 have hrun:=h w0 F η0 hk;rw[<-hpx]at hrun;refine Code.wpIn_mono ?_ (Y5 hT c hrun η0 _ w0 hm)
 have fin:∀{η1:Env} {qV:Fr} {O1:vX} {kK:Nat} {a:Act} {w1:World},u7 ⟨P',⟨T',N,kr S,none⟩,w0,F,η0,px⟩ η1 qV O1 kK a w1->(nS qV O1 fun O1=>ox ⟨T',N,kr S,none⟩ qV O1 res fun vs=>QT ⟨P',⟨T',N,kr S,none⟩,w0,F,η0,none⟩ O1 kK Q vs)->
  LeavesInM Fence.wide 0 P' fn a.tmps (fun e w'=>(∃v,e= .returned v/\∃r O' vW η',Q r O' vW/\η0<+:η'/\vR ⟨P',⟨T',N',kr S,pK⟩,w0,F,η0,nT⟩ η' w' O' vW/\Den η' r v)\/∃v,e= .panicked [{v,recovered:=false}]/\∃r O' vW η',X r O' vW/\η0<+:η'/\vR ⟨P',⟨T',N',kr S,pK⟩,w0,F,η0,nT⟩ η' w' O' vW/\Den η' r v) a.defers .returning w1:=by
  intro η1 qV O1 kK a w1 qy hr;refine Dg (M:=⟨P',⟨T',N,kr S,none⟩,w0,F,η0,px⟩) (K:=fun r O nx=>u0 ⟨P',⟨T',N,kr S,none⟩,w0,F,η0,none⟩ O nx r Q) hT hres qy (by simpa only[PE]using hr) fun w2 O2 v r H2 hd2 hk=>?_;obtain⟨r',O',vW,η',h5,h6,h7,h8⟩:=hk.out η1 w2 v ⟨H2.pre,H2.len,H2.own,H2.fr,H2.wm⟩ hd2;exact .inl ⟨v,rfl,r',O',vW,η',h5,h6,⟨h7.pre,h7.len,h7.own,h7.fr,h7.wm⟩,h8⟩
 intro e a w hq;cases e with
 |normal=>obtain⟨η1,qV,O1,kK,qy,hq⟩:=hq;exact fin qy hq
 |ret=>obtain⟨η1,qV,O1,kK,qy,hq⟩:=hq;exact fin qy hq
 |exit id=>obtain⟨η1,qV,O1,kK,qy,hq⟩:=hq;exact hq.out.elim
 |goto l=>exact hq.elim
 |panic ch=>
  obtain⟨kp,X',h1,η1,O1,kK,v,sv,rfl,qy,j8,hx⟩:=hq;rw[hpx]at h1;injection h1 with h1;injection h1 with h1 h2;subst h1 h2;obtain⟨r',O',vW,η',h5,h6,h7,h8⟩:=u0.out hx η1 w v ⟨qy.heap.pre,qy.heap.len,qy.heap.own,qy.heap.fr,qy.heap.wm⟩ j8;have hdf:a.defers=[]:=qy.defers;show LeavesInM _ _ _ _ _ _ a.defers _ w
  rw[hdf];exact .inr ⟨v,rfl,r',O',vW,η',h5,h6,⟨h7.pre,h7.len,h7.own,h7.fr,h7.wm⟩,h8⟩
 |outgrown=>exact hq.elim
theorem jf.of{M:Mx}{f:FuncId}{args:List SV}{O:vX}{nx:Nat}{KP K:SV->vX->Nat->Prop}{k:Nat}{uD:List SV}{Oc Sc:vX}{Q X:SV->vX->Nat->Prop}(L:List Nat)(sp:cF M.P M.C.T f k uD Oc Sc Q X)
 (hL:L.length=k) (eG:∀i∈L,i<nx) (ha:args=uJ (Zm L nx) uD) (hb:ZR k uD=true)
 (hO:∀p∈Oc,p.1<k/\u5 (Zm L nx p.1) O=some (um (Zm L nx) p.2)/\Zh k p.2=true)
 (sF:∀j∈Zb Oc,∀j'∈Zb Oc,Zm L nx j=Zm L nx j'->j=j')
 (hS:∀p∈Sc,p.1<k/\Yn M.C O (.loc (Zm L nx p.1))=some (um (Zm L nx) p.2)/\Zh k p.2=true/\Zm L nx p.1∉ (Zb Oc).map (Zm L nx))
 (hK:∀r O' vW,Q r O' vW->K (ur (Zm L nx) r) (qa (Zm L nx) O'++ZY ((Zb Oc).map (Zm L nx)) O) (nx+(vW-k)))
 (hX:∀r O' vW,X r O' vW->KP (ur (Zm L nx) r) (qa (Zm L nx) O'++ZY ((Zb Oc).map (Zm L nx)) O) (nx+(vW-k))):jf M f args O nx KP K:=by
 refine⟨fun Y w vs H hd=>?_⟩;obtain⟨Mc,h1,h2,h3,h4,h5,h6,h7,h8⟩:=Dj L hL eG ha hb hO sF hS H hd;refine(h1▸h5▸(sp.out Mc vs h1 h2 h3 h4 h6 h7)).mono ?_ ?_
 .rintro v w' ⟨r,O',vW,η',hq,hpre,H',ga⟩;obtain⟨η2,k1,k2,k3⟩:=h8 r O' vW η' v w' hpre H' ga;exact⟨_,_,_,η2,k1,k2,k3,hK r O' vW hq⟩
 .rintro v w' ⟨r,O',vW,η',hq,hpre,H',ga⟩;obtain⟨η2,k1,k2,k3⟩:=h8 r O' vW η' v w' hpre H' ga;exact⟨_,_,_,η2,k1,k2,k3,hX r O' vW hq⟩
theorem CALL.val{M:Mx}{f:FuncId}{args:List SV}{O:vX}{nx:Nat}{K:SV->vX->Nat->Prop}{r:SV}(sp:vS M.P M.C.T f 0 args [] [] fun r' O' vW=>r'=r/\O'=[]/\vW=0)(hp:YJ args=true)(hr:plain r=true)(hK:K r O nx):CALL M f args O nx K:=by
 refine CALL.of [] sp rfl (fun i hi=>by cases hi) (ZL _ hp).symm (ZE 0 hp) (fun p hp=>by cases hp) (fun j hj=>by cases hj) (fun p hp=>by cases hp) ?_;rintro r' O' vW ⟨rfl,rfl,rfl⟩;rw[X8 _ hr]
 have:ZY ((Zb []).map (Zm [] nx)) O=O:=by
  clear hK sp
  induction O with
  |nil=>rfl
  |cons p O ih=>obtain⟨i,h⟩:=p;simp only[ZY,Zb,yP,List.any_nil]at ih⊢;rw[ih]
 rw[this];simpa[qa]using hK
def uN(r0:SV):SV->vX->Nat->Prop:=fun r O nx=>r=r0/\O=[]/\nx=0
theorem CALL.value{M:Mx}{f:FuncId}{args:List SV}{O:vX}{nx:Nat}{K:SV->vX->Nat->Prop}{r:SV}(sp:vS M.P M.C.T f 0 args [] [] (uN r))(hp:YJ args=true)(hr:plain r=true)(hK:K r O nx):CALL M f args O nx K:=CALL.val sp hp hr hK
def aU(C:Cx)(O:vX)(σ:Nat->Nat)(k:Nat):vX->Prop
 | []=>True
 |(i,h)::r=>(Nat.blt i k=true/\Yn C O (.loc (σ i))=some (um σ h)/\Zh k h=true)/\aU C O σ k r
theorem aU.at{C:Cx}{O:vX}{σ:Nat->Nat}{k:Nat}:∀{S:vX},aU C O σ k S->∀p∈S,p.1<k/\Yn C O (.loc (σ p.1))=some (um σ p.2)/\Zh k p.2=true
 | [],_,p,hp=>by cases hp
 |(i,h)::r,hs,p,hp=>by
  rcases zL.1 hp with rfl|hp
  exact⟨by simpa[yR]using hs.1.1,hs.1.2⟩;exact aU.at hs.2 p hp
theorem Jc:∀O:vX,ZY [] O=O
 | []=>rfl
 |(i,h)::O=>by
  have ih:=Jc O;simp only[ZY,List.any_nil]at ih⊢;rw[ih]
theorem CALL.look{M:Mx}{f:FuncId}{args:List SV}{O:vX}{nx:Nat}{K:SV->vX->Nat->Prop}{k:Nat}{uD:List SV}{Sc:vX}{Q:SV->vX->Nat->Prop}(L:List Nat)(sp:vS M.P M.C.T f k uD [] Sc Q)
 (hL:L.length=k) (eG:L.all (fun i=>Nat.blt i nx)=true) (ha:args=uJ (Zm L nx) uD) (hb:ZR k uD=true) (hS:aU M.C O (Zm L nx) k Sc)
 (hK:∀r O' vW,Q r O' vW->K (ur (Zm L nx) r) (qa (Zm L nx) O'++O) (nx+(vW-k))):CALL M f args O nx K:=by
 refine CALL.of L sp hL (fun i hi=>by have:=zT.1 eG i hi;simpa[yR]using this) ha hb (fun p hp=>by cases hp) (fun j hj=>by cases hj) (fun p hp=>?_) (fun r O' vW h=>?_)
 .obtain⟨h1,h2,h3⟩:=hS.at p hp;exact⟨h1,h2,h3,fun h=>by cases h⟩
 .have:=hK r O' vW h;simpa[Zb,Jc]using this
def w6(k:Nat)(r0:SV):SV->vX->Nat->Prop:=fun r O nx=>r=r0/\O=[]/\nx=k
theorem CALL.looks{M:Mx}{f:FuncId}{args:List SV}{O:vX}{nx:Nat}{K:SV->vX->Nat->Prop}{k:Nat}{uD:List SV}{Sc:vX}{r:SV}(L:List Nat)(sp:vS M.P M.C.T f k uD [] Sc (w6 k r))
 (hL:L.length=k) (eG:L.all (fun i=>Nat.blt i nx)=true) (ha:args=uJ (Zm L nx) uD) (hb:ZR k uD=true) (hS:aU M.C O (Zm L nx) k Sc) (hK:K (ur (Zm L nx) r) O nx):CALL M f args O nx K:=by
 refine CALL.look L sp hL eG ha hb hS ?_;rintro r' O' vW ⟨rfl,rfl,rfl⟩;simpa[qa]using hK
theorem vS.says{P:Program}{T:wU}{f:FuncId}{args:List SV}{r:SV}(h:∀Y w vs,vV Y args vs->∃v,(callFunc f ⟨vs⟩).run P w= .ok (.value v) w/\Den Y r v):vS P T f 0 args [] [] (uN r):=by
 refine⟨fun M vs hP hT hF hS H hd=>?_⟩;obtain⟨v,h1,h2⟩:=h M.η0 M.w0 vs hd;exact .inr ⟨v,M.w0,by rw[hP];exact h1,r,[],0,M.η0,⟨rfl,rfl,rfl⟩,zu,⟨H.pre,H.len,⟨fun i h hi=>by simp[u5]at hi,fun i j h h' n hi=>by simp[u5]at hi⟩,H.fr,H.wm⟩,h2⟩
theorem u0.val{M:Mx}{O:vX}{nx k:Nat}{r:SV}{Q:SV->vX->Nat->Prop}(hk:M.η0.length=k)(hp:plain r=true)(hQ:Q r [] k):u0 M O nx r Q:=by
 refine⟨fun Y w v H hd=>⟨r,[],k,M.η0,hQ,zu,⟨zu,hk,⟨fun i h hi=>by simp[u5]at hi,fun i j h h' n hi=>by simp[u5]at hi⟩,H.fr,H.wm⟩,?_⟩⟩;have hb:fo Y M.η0 (fun i=>i) 0:=fun i x hi=>by omega
 exact Den.ug hb (XA 0 hp) (by rw[X8 _ hp];exact hd)
theorem u0.value{M:Mx}{O:vX}{nx:Nat}{r r0:SV}(hk:M.η0.length=0)(hp:plain r=true)(hQ:r=r0):u0 M O nx r (uN r0):=u0.val hk hp ⟨hQ,rfl,rfl⟩
theorem u0.ua{M:Mx}{O:vX}{nx k:Nat}{r r0:SV}(hk:M.η0.length=k)(hp:plain r=true)(hQ:r=r0):u0 M O nx r (w6 k r0):=u0.val hk hp ⟨hQ,rfl,rfl⟩
def YM(k:Nat)(Z:List Nat)(j:Nat):Nat:=if j<k then j else Z.getD (j-k) 0
theorem vR.names{M:Mx}{Y:Env}{w:World}{O:vX}{nx k:Nat}(H:vR M Y w O nx)(hk:M.η0.length=k)(Z:List Nat){Oc:vX}(hτ:∀i∈Z,i<nx)
 (hO:∀p∈Oc,p.1<k+Z.length/\u5 (YM k Z p.1) O=some (um (YM k Z) p.2)/\Zh (k+Z.length) p.2=true)
 (hn:∀j∈Zb Oc,∀j'∈Zb Oc,YM k Z j=YM k Z j'->j=j'):∃η',M.η0<+:η'/\vR M η' w Oc (k+Z.length)/\fo Y η' (YM k Z) (k+Z.length):=by
 generalize hσ:YM k Z=σ at*;obtain⟨η',hη'⟩:∃η':Env,η'=M.η0++Z.map (fun i=>(Y[i]?).getD none):=⟨_,rfl⟩
 have qm:∀j,j<k+Z.length->η'[j]?=Y[σ j]?:=by
  intro j hj;rw[hη',<-hσ];by_cases h:j<k
  .rw[zn (by omega)];simp only[YM,zf h];obtain⟨t,ht⟩:=H.pre;rw[<-ht,zn (by omega)]
  .rw[zw (by omega),hk,z6];have hlt:j-k<Z.length:=by omega
   simp only[YM,z7 h,z1 hlt,Option.map_some,List.getD,Option.getD_some];have:=hτ _ (zk hlt);rw[z1 (by rw[H.len];exact this)]
   rfl
 have fS:fo Y η' σ (k+Z.length):=fun j x hj hx=>by rw[qm j hj];exact hx
 have nU:∀j h,u5 j Oc=some h->j<k+Z.length/\u5 (σ j) O=some (um σ h)/\Zh (k+Z.length) h=true:=fun j h hj=>hO (j,h) (UR hj);refine⟨η',by rw[hη'];exact zz _ _,⟨by rw[hη'];exact zz _ _,by rw[hη'];simp[hk],⟨?_,?_⟩,H.fr,H.wm⟩,fS⟩
 .intro j h hj;obtain⟨p1,p2,p3⟩:=nU j h hj;exact⟨(H.own.1 _ _ p2).1.ug fS p1 p3,fun n f=>(H.own.1 _ _ p2).2 n (f.ur fun x hx=>by rw[<-qm j p1];exact hx)⟩
 .intro j j' h h' n hj hj' hne f f';obtain⟨p1,p2,_⟩:=nU j h hj;obtain⟨q1,q2,_⟩:=nU j' h' hj';exact H.own.2 _ _ _ _ n p2 q2 (fun hh=>hne (hn j (Ja hj) j' (Ja hj') hh)) (f.ur fun x hx=>by rw[<-qm j p1];exact hx) (f'.ur fun x hx=>by rw[<-qm j' q1];exact hx)
theorem u0.keep{M:Mx}{O:vX}{nx k:Nat}{r:SV}{Q:SV->vX->Nat->Prop}(hk:M.η0.length=k)(Z:List Nat){rc:SV}{Oc:vX}(hτ:∀i∈Z,i<nx)(hr:r=ur (YM k Z) rc)(hb:ZV (k+Z.length) rc=true)
 (hO:∀p∈Oc,p.1<k+Z.length/\u5 (YM k Z p.1) O=some (um (YM k Z) p.2)/\Zh (k+Z.length) p.2=true)
 (hn:∀j∈Zb Oc,∀j'∈Zb Oc,YM k Z j=YM k Z j'->j=j') (hQ:Q rc Oc (k+Z.length)):u0 M O nx r Q:=by
 refine⟨fun Y w v H hd=>?_⟩;obtain⟨η',h1,h2,h3⟩:=H.names hk Z hτ hO hn;exact⟨rc,Oc,k+Z.length,η',hQ,h1,h2,Den.ug h3 hb (by rw[<-hr];exact hd)⟩
def eX(σ:Nat->Nat)(m:Nat)(fr:Fr):Fr->Prop
 | []=>True
 |(t,v)::r=>(u5 t fr=some (ur σ v)/\ZV m v=true)/\eX σ m fr r
theorem eX.at{σ:Nat->Nat}{m:Nat}{fr:Fr}:∀{fr':Fr},eX σ m fr fr'->∀t v,u5 t fr'=some v->u5 t fr=some (ur σ v)/\ZV m v=true
 | [],_,t,v,h=>by simp[u5]at h
 |(d,u)::r,hs,t,v,h=>by
  rw[Z8]at h;split at h
  rename_i e;subst e;injection h with h;subst h;exact hs.1
  exact eX.at hs.2 t v h
def aV(σ:Nat->Nat)(m:Nat)(O:vX):vX->Prop
 | []=>True
 |(i,h)::r=>(Nat.blt i m=true/\u5 (σ i) O=some (um σ h)/\Zh m h=true)/\aV σ m O r
theorem aV.at{σ:Nat->Nat}{m:Nat}{O:vX}:∀{O':vX},aV σ m O O'->∀p∈O',p.1<m/\u5 (σ p.1) O=some (um σ p.2)/\Zh m p.2=true
 | [],_,p,hp=>by cases hp
 |(i,h)::r,hs,p,hp=>by
  rcases zL.1 hp with rfl|hp
  exact⟨by simpa[yR]using hs.1.1,hs.1.2⟩;exact aV.at hs.2 p hp
def sI:Option SV->Bool
 |some (.jJ _)=>true
 |_=>false
def lY(fr fr':Fr):Bool:=match sI (u5 DS fr)with
 |true=>sI (u5 DS fr')
 |false=>!(sI (u5 DS fr'))
theorem qw.no{Y:Env}{ds:List Deferred}{v:Option SV}(h:sI v=false):qw Y ds v<->ds=[]:=by
 cases v with
 |none=>exact xF
 |some v=>cases v<;>first|exact xF|cases h
theorem qw.goes{Y η':Env}{σ:Nat->Nat}{m:Nat}{fr fr':Fr}{ds:List Deferred}(hb:fo Y η' σ m)(hd:lY fr fr'=true)(hf:∀v,u5 DS fr'=some v->u5 DS fr=some (ur σ v)/\ZV m v=true)(h:qw Y ds (u5 DS fr)):qw η' ds (u5 DS fr'):=by
 unfold lY at hd;split at hd
 .cases hv:u5 DS fr' with
  |none=>rw[hv]at hd;cases hd
  |some v=>
   rw[hv]at hd;cases v with
   |jJ l=>
    obtain⟨h1,h2⟩:=hf _ hv;rw[h1]at h;simp only[qw,ur]at h⊢;exact kW.ug hb (by simpa only[ZV]using h2) h
   |_=>cases hd
 .rename_i h1;rw[qw.no h1]at h;rw[qw.no (by simpa using hd)];exact h
def lZ(ro:Option (Nat×Nat))(σ:Nat->Nat)(m:Nat):Bool:=match ro with
 |none=>true
 |some p=>Nat.blt p.2 m&&Nat.beq (σ p.2) p.2
theorem PJ{ro:Option (Nat×Nat)}{σ:Nat->Nat}{m l j:Nat}(h:lZ ro σ m=true)(hr:ro=some (l,j)):j<m/\σ j=j:=by
 subst hr;simp only[lZ,zj,yR]at h;exact⟨h.1,Zr h.2⟩
theorem vU.keep{M:Mx}{fr:Fr}{O:vX}{nx k:Nat}{fr':Fr}{O':vX}(hk:M.η0.length=k)(Z:List Nat)(hτ:Z.all (fun i=>Nat.blt i nx)=true)(hf:eX (YM k Z) (k+Z.length) fr fr')(hO:aV (YM k Z) (k+Z.length) O O')
 (hn:(Zb O').all (fun j=>(Zb O').all fun j'=>!(Nat.beq (YM k Z j) (YM k Z j'))||Nat.beq j j')=true) (hd:lY fr fr'=true:=by rfl) (hro:lZ M.C.ro (YM k Z) (k+Z.length)=true:=by rfl):vU M fr O nx fr' O' (k+Z.length):=by
 refine⟨fun Y a w hm=>?_⟩
 obtain⟨η',h1,h2,h3⟩:=hm.heap.names hk Z (fun i hi=>by have:=zT.1 hτ i hi;simpa[yR]using this) hO.at (fun j hj j' hj' he=>by
  have:=zT.1 (zT.1 hn j hj) j' hj';simp only[he,Xh,xY,xE]at this
  exact Zr this)
 refine⟨η',h2,hm.size,hm.fK,hm.defers.goes h3 hd (fun v hv=>hf.at DS v hv),fun l j hj=>?_,fun t v ht=>?_⟩
 .obtain⟨h4,h5⟩:=PJ hro hj;obtain⟨e,h6,h7⟩:=hm.ro l j hj;exact⟨e,h3 j _ h4 (by rw[h5];exact h6),h7⟩
 obtain⟨h4,h5⟩:=hf.at t v ht;exact Den.ug h3 h5 (hm.frame t _ h4)
theorem vS.calls{P:Program}{T:wU}{g:FuncId}{args:List SV}{r:SV}{vs:List Value}{w:World}(sp:vS P T g 0 args [] [] (uN r))(eg:∀args w,(callFunc g args).run P w= .ok (.enter g args) w)(hd:vV [] args vs)
 (hg:∀g h,u5 g T.qt=some h->vT [] w false (.uH g) h/\g<w.heap.size):
 Calls P g ⟨vs⟩ w fun e w'=> ∃v,e= .returned v/\Den [] r v/\qW w w' fun _=>False:=by
 have H:vR ⟨P,⟨T,0,[],none⟩,w,fun _=>False,[],none⟩ [] w [] 0:=⟨zu,rfl,⟨fun i h hi=>by simp[u5]at hi,fun i j h h' n hi=>by simp[u5]at hi⟩,qW.refl _ _,fun b h hb=>by
  cases b with
  |loc i=>simp[ez,qv]at hb
  |uH g=>
   obtain⟨h1,h2⟩:=hg g h hb
   exact⟨h1,fun k f=>⟨h1.uy f,fun h=>h⟩⟩⟩
 have hF:(fun _=>False:Nat->Prop)=Ym [] w []:=by
  funext n;simp[Ym,u5]
 rcases sp.out ⟨P,⟨T,0,[],none⟩,w,fun _=>False,[],none⟩ vs rfl rfl hF rfl H hd with⟨g',h1,h2⟩|⟨v,w',h1,_⟩
 .rw[eg]at h1;injection h1 with h1 _;injection h1 with h1 _;subst h1;refine h2.mono fun e w' he=>?_;obtain⟨v,rfl,r',O',vW,η',⟨rfl,rfl,rfl⟩,_,h4,h5⟩:=he;have:η'=[]:=zM.1 h4.len;subst this;exact⟨v,rfl,h5,h4.fr⟩
 rw[eg]at h1;cases h1
section
variable {σ:Nat->Nat}
theorem Fp(h:∀j,σ j=j):∀b,uS σ b=b
 | .uH g=>rfl
 | .loc i=>by simp only[uS,h]
mutual
theorem sV(h:∀j,σ j=j):∀v,ur σ v=v
 | .bool _=>rfl
 | .int _ _=>rfl
 | .str _=>rfl
 | .val _=>rfl
 | .any=>rfl
 | .nb _=>rfl
 | .jJ l=>by simp only[ur,UU h l]
 | .yf b=>by simp only[ur,Fp h]
 | .mp b=>by simp only[ur,Fp h]
 | .ptr b _ _ _=>by simp only[ur,Fp h]
 | .sl b _ _ _ _=>by simp only[ur,Fp h]
 | .agg cs=>by simp only[ur,UU h cs]
 | .arr _ rs=>by simp only[ur,K7 h rs]
 | .uz vs=>by simp only[ur,UU h vs]
 | .fH _ v=>by simp only[ur,sV h v]
 | .fn _ a b=>by simp only[ur,UU h a,UU h b]
theorem UU(h:∀j,σ j=j):∀vs,uJ σ vs=vs
 | []=>rfl
 |c::cs=>by simp only[uJ,sV h c,UU h cs]
theorem K7(h:∀j,σ j=j):∀vs,Xn σ vs=vs
 | []=>rfl
 |c::cs=>by simp only[Xn,UU h c,K7 h cs]
end
theorem Nc(h:∀j,σ j=j):∀fr,kR σ fr=fr
 | []=>rfl
 |(t,v)::r=>by simp only[kR,sV h v,Nc h r]
theorem ZhY(h:∀j,σ j=j):∀c,gh σ c=c
 | .v s=>by simp only[gh,sV h]
 | .uA _ rs=>by simp only[gh,K7 h]
theorem Nd(h:∀j,σ j=j):∀r,ax σ r=r
 | []=>rfl
 |c::cs=>by simp only[ax,ZhY h,Nd h cs]
theorem Nf(h:∀j,σ j=j):∀r,XG σ r=r
 | []=>rfl
 |c::cs=>by simp only[XG,Nd h,Nf h cs]
theorem ZhZ(h:∀j,σ j=j):∀hp,um σ hp=hp
 | .deep _ _ _=>by simp only[um,Nf h]
 | .box _=>by simp only[um,UU h]
 | .rows _ _=>by simp only[um,K7 h]
 | .wu _ _=>rfl
 | .dY _=>rfl
 | .kV _ _ _=>rfl
 | .jV _=>rfl
 | .lp _ _ fr=>by simp only[um,Nc h]
 | .mp _=>by simp only[um,K7 h]
end
def de(m:Nat)(fr:Fr):Fr->Prop
 | []=>True
 |(t,v)::r=>(u5 t fr=some v/\ZV m v=true)/\de m fr r
def o5(m:Nat)(O:vX):vX->Prop
 | []=>True
 |(i,h)::r=>(u5 i O=some h/\Nat.blt i m=true/\Zh m h=true)/\o5 m O r
theorem de.at{m:Nat}{fr:Fr}:∀{fr':Fr},de m fr fr'->∀t v,u5 t fr'=some v->u5 t fr=some v/\ZV m v=true
 | [],_,t,v,h=>by simp[u5]at h
 |(d,u)::r,hs,t,v,h=>by
  rw[Z8]at h;split at h
  rename_i e;subst e;injection h with h;subst h;exact hs.1
  exact de.at hs.2 t v h
theorem o5.at{m:Nat}{O:vX}:∀{O':vX},o5 m O O'->∀i h,u5 i O'=some h->u5 i O=some h/\i<m/\Zh m h=true
 | [],_,t,v,h=>by simp[u5]at h
 |(d,u)::r,hs,t,v,h=>by
  rw[Z8]at h;split at h
  .rename_i e;subst e;injection h with h;subst h
   exact⟨hs.1.1,by simpa[yR]using hs.1.2.1,hs.1.2.2⟩
  exact o5.at hs.2 t v h
variable {M:Mx}{fr fr':Fr}{O O':vX}{nx:Nat}
theorem vU.cut{k:Nat}(m:Nat)(hk:M.η0.length=k)(hkm:Nat.ble k m=true)(hmn:Nat.ble m nx=true)(hf:de m fr fr')(hO:o5 m O O')(hd:lY fr fr'=true:=by rfl)(hro:lZ M.C.ro id m=true:=by rfl):vU M fr O nx fr' O' m:=by
 have hkm:=zU hkm;have hmn:=zU hmn;refine⟨fun Y a w hm=>?_⟩;have hid:∀j:Nat,id j=j:=fun _=>rfl
 have fS:fo Y (Y.take m) id m:=fun i x hi hx=>by
  simp only[id]at hx;rw[zS,zf hi];exact hx
 have hlen:(Y.take m).length=m:=by rw[zq,hm.heap.len];omega
 refine⟨Y.take m,⟨?_,hlen,⟨fun i h hi=>?_,fun i j h h' n hi hj hij f f'=>?_⟩,hm.heap.fr,hm.heap.wm⟩,hm.size,hm.fK,hm.defers.goes fS hd (fun v hv=>by rw[sV hid];exact hf.at DS v hv),fun l j hj=>?_,fun t v ht=>?_⟩
 .obtain⟨t,ht⟩:=hm.heap.pre;refine⟨t.take (m-k),?_⟩;rw[<-ht,List.take_append,hk,zg (l:=M.η0) (by omega)]
 .obtain⟨h1,h2,h3⟩:=hO.at i h hi;refine⟨vT.ug fS h2 h3 ?_,fun n f=>(hm.heap.own.1 i h h1).2 n (f.mono (List.take_prefix m Y))⟩;rw[ZhZ hid];exact(hm.heap.own.1 i h h1).1
 .obtain⟨h1,h2,h3⟩:=hO.at i h hi;obtain⟨h4,h5,h6⟩:=hO.at j h' hj;exact hm.heap.own.2 i j h h' n h1 h4 hij (f.mono (List.take_prefix m Y)) (f'.mono (List.take_prefix m Y))
 .obtain⟨h4,_⟩:=PJ hro hj;obtain⟨e,h6,h7⟩:=hm.ro l j hj;exact⟨e,fS j _ h4 h6,h7⟩
 .obtain⟨h1,h2⟩:=hf.at t v ht;exact Den.ug fS h2 (by rw[sV hid];exact hm.frame t v h1)
def pR(fr:Fr):Fr->Prop
 | []=>True
 |(t,v)::r=>match u5 t fr with
  |some u=>u=v/\pR fr r
  |none=>False
def K8(O:vX):vX->Prop
 | []=>True
 |(i,h)::r=>match u5 i O with
  |some g=>g=h/\K8 O r
  |none=>False
def Uj(m:Nat):Fr->Bool
 | []=>true
 |(_,v)::r=>ZV m v&&Uj m r
def Zl(m:Nat):vX->Bool
 | []=>true
 |(i,h)::r=>Nat.blt i m&& (Zh m h&&Zl m r)
theorem Ng{m:Nat}{fr:Fr}:∀{fr':Fr},pR fr fr'->Uj m fr'=true->de m fr fr'
 | [],_,_=>trivial
 |(t,v)::r,h,b=>by
  simp only[pR]at h;simp only[Uj,zj]at b;split at h
  .rename_i u hu;obtain⟨rfl,h⟩:=h;exact⟨⟨hu,b.1⟩,Ng h b.2⟩
  exact h.elim
theorem Nh{m:Nat}{O:vX}:∀{O':vX},K8 O O'->Zl m O'=true->o5 m O O'
 | [],_,_=>trivial
 |(t,v)::r,h,b=>by
  simp only[K8]at h;simp only[Zl,zj]at b;split at h
  .rename_i u hu;obtain⟨rfl,h⟩:=h;exact⟨⟨hu,b.1,b.2.1⟩,Nh h b.2.2⟩
  exact h.elim
theorem vU.wE{k m:Nat}(hk:M.η0.length=k)(hkm:Nat.ble k m=true)(hmn:Nat.ble m nx=true)(sW:Uj m fr'=true)(sX:Zl m O'=true)(hf:pR fr fr')(hO:K8 O O')(hd:lY fr fr'=true:=by rfl)(hro:lZ M.C.ro id m=true:=by rfl):vU M fr O nx fr' O' m:=
 vU.cut m hk hkm hmn (Ng hf sW) (Nh hO sX) hd hro
theorem vU.trans{fQ:Fr}{O2:vX}{n1 n2:Nat}(h:vU M fr O nx fr' O' n1)(k:vU M fr' O' n1 fQ O2 n2):vU M fr O nx fQ O2 n2:=
 ⟨fun Y a w hm=>let⟨η1,h1⟩:=h.out Y a w hm;k.out η1 a w h1⟩
theorem vU.nil(t es:Nat)(h0:u5 t fr=some (.val (.slice none 0 0))):vU M fr O nx ((t, .sl (.loc nx) 0 es 0 none)::fr) ((nx, .rows es [])::O) (nx+1):=by
 refine⟨fun Y a w hm=>?_⟩;have hpre:Y<+:Y++ [none]:=zz _ _;have hnew:(Y++ [none])[nx]?=some none:=by rw[zw (by rw[hm.heap.len];omega),hm.heap.len];simp
 refine⟨Y++ [none],hm.heap.push none (fun _ _=>rfl) (zo _) rfl rfl rfl (zo _) (.inl ⟨hnew,rfl⟩) (fun k f=>(vY.none (b:= .loc nx) hnew f).elim) (fun k f=>(vY.none (b:= .loc nx) hnew f).elim),hm.size,hm.fK,?_,Ub hpre hm.ro,fun u v hu=>?_⟩
 .have hdf:=hm.defers.mono hpre;rw[Z8];split
  .rename_i e;rw[e,h0,qw.no rfl]at hdf;rw[qw.no rfl];exact hdf
  exact hdf
 .rw[Z8]at hu;split at hu
  .rename_i e;subst e;injection hu with hu;subst hu
   have:=hm.frame u _ h0;simp only[Den]at this⊢;exact .inl ⟨hnew,this.1,trivial⟩
  exact Den.mono hpre (hm.frame u v hu)
theorem vZ.goes{body:Code}{Q:Post}{n1:Nat}(h:vU M fr O nx fr' O' n1)(k:vZ M body fr' O' n1 Q):vZ M body fr O nx Q:=
 ⟨fun Y a w hm=>let⟨η1,h1⟩:=h.out Y a w hm;k.out η1 a w h1⟩
theorem vZ.nil{body:Code}{Q:Post}(t es:Nat)(h0:u5 t fr=some (.val (.slice none 0 0)))(k:vZ M body ((t, .sl (.loc nx) 0 es 0 none)::fr) ((nx, .rows es [])::O) (nx+1) Q):vZ M body fr O nx Q:=vZ.goes (vU.nil t es h0) k
theorem u0.rows{k:Nat}{r:SV}{Q:SV->vX->Nat->Prop}(hk:M.η0.length=k)(i es len:Nat){rs:List (List SV)}(hr:r= .sl (.loc i) 0 es len none)(hO:u5 i O=some (.rows es rs))(hi:Nat.blt i nx=true)(hp:Zj rs=true)
 (hQ:Q (.sl (.loc k) 0 es len none) [(k, .rows es rs)] (k+1)):u0 M O nx r Q:=by
 have hi:i<nx:=by simpa[yR]using hi
 have hf:YM k [i] k=i:=by simp[YM]
 refine u0.keep hk [i] (rc:= .sl (.loc k) 0 es len none) (Oc:=[(k, .rows es rs)]) (fun j hj=>by simp at hj;omega) (by rw[hr];simp only[ur,uS,hf]) (by simp[ZV,WJ,yR]) ?_ ?_ hQ
 .intro p hp';simp only[zI]at hp';subst hp';refine⟨by simp,?_,by simp only[Zh,Z2 _ hp]⟩;simp only[um,hf,Zd _ hp,hO]
 .intro j hj j' hj' _;simp[Zb]at hj hj';omega
def Ni(k:Nat)(l:List UInt8):SV->vX->Nat->Prop:=fun r O nx=>r= .sl (.loc k) 0 1 l.length none/\O=[(k, .rows 1 (l.map bytesRow))]/\nx=k+1
theorem XI(l:List UInt8):Zj (l.map bytesRow)=true:=ZD _ (fun _=>rfl) l
theorem Dz{L:List Nat}{nx k:Nat}(hL:L.length=k):Zm L nx k=nx:=by simp[Zm,hL]
theorem CALL.bytes{f:FuncId}{args:List SV}{K:SV->vX->Nat->Prop}{l:List UInt8}(sp:vS M.P M.C.T f 0 args [] [] (Ni 0 l))(hp:YJ args=true)
 (hK:K (.sl (.loc nx) 0 1 l.length none) ((nx, .rows 1 (l.map bytesRow))::O) (nx+1)):CALL M f args O nx K:=by
 refine CALL.of [] sp rfl (fun i hi=>by cases hi) (ZL _ hp).symm (ZE 0 hp) (fun p hp=>by cases hp) (fun j hj=>by cases hj) (fun p hp=>by cases hp) ?_;rintro r' O' vW ⟨rfl,rfl,rfl⟩;simp only[ur,uS,qa,um,Zd _ (XI l),Dz (L:=[]) (nx:=nx) (k:=0) rfl,Zb,yP,Jc,List.cons_append,List.nil_append];exact hK
theorem Nj(xs:List UInt8)(r n:Nat):((xs.map bytesRow).drop r).take n=((xs.drop r).take n).map bytesRow:=by rw[xQ,List.map_drop]
theorem K9(xs:List UInt8):(xs.map bytesRow).map iB=xs:=Pc xs
theorem Uk{xs:List UInt8}{r n:Nat}(h:r+n<=xs.length):(((xs.map bytesRow).drop r).take n).length=n/\∃l:List UInt8,((xs.map bytesRow).drop r).take n=l.map bytesRow:=
 ⟨by simp;omega,_,Nj xs r n⟩
theorem DA(xs:List UInt8):(((xs.map bytesRow).drop 0).take xs.length).map iB=xs:=by rw[Nj,K9];simp
theorem CALL.kT{f:FuncId}{args uD:List SV}{K:SV->vX->Nat->Prop}{es:Nat}{rs:List (List SV)}{r:SV}(i:Nat)(sp:vS M.P M.C.T f 1 uD [] [(0, .rows es rs)] (w6 1 r))
 (ha:args=uJ (Zm [i] nx) uD) (hi:Nat.blt i nx=true) (hb:ZR 1 uD=true) (hO:Yn M.C O (.loc i)=some (.rows es rs)) (hp:Zj rs=true) (hr:plain r=true) (hK:K r O nx):CALL M f args O nx K:=by
 refine CALL.looks [i] sp rfl (by simp[hi]) ha hb ⟨⟨rfl,?_,Yz _ hp⟩,trivial⟩ ?_
 .rw[show um (Zm [i] nx) (.rows es rs)= .rows es rs from Zv _ hp];exact hO
 rw[X8 _ hr];exact hK
def iP:List Nat->Fr->(Fr->Prop)->Prop
 | [],fr,K=>match u5 DS fr with
   |some v=>K [(DS,v)]
   |none=>K []
 |t::ts,fr,K=>match u5 t fr with
  |some v=>iP ts fr fun r=>K ((t,v)::r)
  |none=>uF "kept"
def dL:Fr->Fr->(Fr->Prop)->Prop
 | [],r,K=>K r
 |(t,v)::l,r,K=>dL l r fun r=>K ((t,v)::r)
def o6:vX->(vX->Prop)->Prop
 | [],K=>K []
 |(t,v)::l,K=>o6 l fun r=>K ((t,v)::r)
theorem DB:∀{ts:List Nat} {fr:Fr} {K:Fr->Prop},iP ts fr K->∃r,K r
 | [],fr,K,h=>by
   simp only[iP]at h;split at h
   exact⟨_,h⟩;exact⟨_,h⟩
 |t::ts,fr,K,h=>by
  simp only[iP]at h;split at h
  obtain⟨r,hr⟩:=DB h;exact⟨_,hr⟩;exact h.out.elim
theorem DD:∀{l r:Fr} {K:Fr->Prop},dL l r K<->K (l++r)
 | [],r,K=>xF
 |(t,v)::l,r,K=>by simp only[dL,List.cons_append,DD]
theorem Nk:∀{l:vX} {K:vX->Prop},o6 l K<->K l
 | [],K=>xF
 |(t,v)::l,K=>by simp only[o6,Nk]
theorem vZ.go{body:Code}{Q:Post}(hT:uC M.P M.C.T)(ks:List Nat){X:Type}(P:X->Prop)(mJ:X->Fr)(Ox:X->vX)(n0:Nat)(Z:X->Nat)(x0:X)(hP:P x0)
 (h:iP ks fr fun kF=>(dL (mJ x0) kF fun fr'=>o6 (Ox x0) fun O'=>vU M fr O nx fr' O' n0)/\
   ∀x,P x->dL (mJ x) kF fun qV=>o6 (Ox x) fun O1=>run M body qV O1 n0 fun e fr O nx=>match e with
    | .normal=> ∃x',P x'/\Z x'<Z x/\dL (mJ x') kF fun fr'=>o6 (Ox x') fun O'=>vU M fr O nx fr' O' n0
    |e=>Q e fr O nx):vZ M body fr O nx Q:=by
 obtain⟨kF,h1,h2⟩:=DB h;simp only[DD,Nk]at h1 h2;exact vZ.inv hT P (fun x=>(mJ x++kF,Ox x,n0)) Z x0 hP h1 h2
theorem gZ.at{rs:List (List SV)}{i:Nat}{g:Prop}{K:List SV->Prop}{row:List SV}(h:rs[i]?=some row)(k:K row):gZ g rs i K:=⟨row,fun _=>h,k⟩
theorem Z9{a:Int}(h1: -9223372036854775808<=a)(h2:a<=9223372036854775807):IntKind.i64.wrap a=a:=IntWalk.i64_in _ ⟨by omega,by omega⟩
theorem Zp{a:Int}(h1: -2147483648<=a)(h2:a<=2147483647):IntKind.i32.wrap a=a:=IntWalk.i32_in _ ⟨by omega,by omega⟩
theorem Ka:(∀(p:Prop) [Decidable p],(decide p=true)=p)/\(∀(p:Prop) [Decidable p],(decide p=false)<->¬p)/\(∀b:Bool,(¬b=true)=(b=false))/\(∀b:Bool,(¬b=false)=(b=true))/\(∀a b:Bool,((!a)=b)<->(a=!b))/\
 ((!true)=false)/\((!false)=true)/\(∀a b:Bool,((a&&b)=true)=(a=true/\b=true))/\(∀a b:Bool,((a||b)=true)=(a=true\/b=true))/\(∀a b:Bool,((a&&b)=false)=(a=true->b=false))/\(∀a b:Bool,((a||b)=false)=(a=false/\b=false))/\
 (∀{J:Type} [BEq J] [LawfulBEq J] (a b:J),((a !=b)=true)<->a≠b)/\(∀{J:Type} [BEq J] [LawfulBEq J] (a b:J),((a !=b)=false)<->a=b)/\(∀{J:Type} [BEq J] [LawfulBEq J] (a b:J),((a==b)=true)<->a=b)/\(∀{J:Type} [BEq J] [LawfulBEq J] (a b:J),((a==b)=false)<->a≠b)/\
 (∀{J:Type} (a b:J),(a≠b)=¬(a=b))/\(∀c:Bool,(bif c then c else false)=c)/\(∀a b:Bool,(bif a then b else false)=(a&&b))/\(∀a b:Bool,(bif a then true else b)=(a||b))/\(∀a b:Bool,(bif a then b else true)=(!a||b))/\(∀a b:Bool,(bif a then false else b)=(!a&&b)):=
 ⟨fun p _=>by simp,fun p _=>by simp,fun b=>by simp,fun b=>by simp,fun a b=>by cases a<;>cases b<;>simp,rfl,rfl,fun a b=>by simp,fun a b=>by simp,fun a b=>by simp,fun a b=>by simp,fun a b=>by simp,fun a b=>by simp,fun a b=>by simp,fun a b=>by simp,
  fun a b=>rfl,fun c=>by cases c<;>rfl,fun a b=>by cases a<;>rfl,fun a b=>by cases a<;>rfl,fun a b=>by cases a<;>rfl,fun a b=>by cases a<;>rfl⟩
theorem Kb:(∀a b:Int,(¬a<b)<->b<=a)/\(∀a b:Int,(¬a<=b)<->b<a)/\(decide True=true)/\(decide False=false)/\(∀{J:Type} (a b:J),(bif true then a else b)=a)/\(∀{J:Type} (a b:J),(bif false then a else b)=b)/\
 (∀b:Bool,(true||b)=true)/\(∀b:Bool,(b||true)=true)/\(∀b:Bool,(false||b)=b)/\(∀b:Bool,(b||false)=b)/\(∀b:Bool,(true&&b)=b)/\(∀b:Bool,(b&&true)=b)/\(∀b:Bool,(false&&b)=false)/\(∀b:Bool,(b&&false)=false)/\
 (∀p:Prop,(True\/p)=True)/\(∀p:Prop,(p\/True)=True)/\(∀p:Prop,(False\/p)=p)/\(∀p:Prop,(p\/False)=p)/\(∀p:Prop,(True/\p)=p)/\(∀p:Prop,(p/\True)=p)/\(∀p:Prop,(False/\p)=False)/\(∀p:Prop,(p/\False)=False)/\
 ((¬True)=False)/\((¬False)=True)/\((false=true)=False)/\((true=false)=False)/\(∀p q:Prop,(¬(p\/q))<->(¬p/\¬q))/\(∀p q:Prop,(¬(p/\q))<->(p->¬q))/\(∀p:Prop,(¬ ¬p)<->p):=
 ⟨fun a b=>Int.not_lt,fun a b=>Int.not_le,by simp,by simp,fun a b=>rfl,fun a b=>rfl,fun b=>by simp,fun b=>by simp,fun b=>by simp,fun b=>by simp,fun b=>by simp,fun b=>by simp,fun b=>by simp,fun b=>by simp,fun p=>by simp,fun p=>by simp,fun p=>by simp,fun p=>by simp,fun p=>by simp,fun p=>by simp,fun p=>by simp,fun p=>by simp,
  by simp,by simp,by simp,by simp,fun p q=>by simp,fun p q=>by simp,fun p=>Classical.not_not⟩
theorem wI:(∀{J:Type} (a:J) (l:List J),(a::l).length=l.length+1)/\(∀{J:Type},([]:List J).length=0)/\(∀{J:Type} (a b:List J),(a++b).length=a.length+b.length)/\(∀p:Prop,(True/\p)=p)/\(∀p:Prop,(p/\True)=p):=
 ⟨fun a l=>rfl,rfl,fun a b=>zh,fun p=>by simp,fun p=>by simp⟩
theorem Zn{xs:List (List SV)}{m n k b:Nat}(B:Nat)(hb:Nat.ble b B=true)(hB:Nat.ble 1 B=true)(h1:xs.length=m)(h2:n<=k)(h3:min (2*(n+m)) ((n+m)+(n+m)/4+192)*B<=281474976710656):xs.length=m/\n<=k/\n+m<=9223372036854775807/\min (2*(n+m)) ((n+m)+(n+m)/4+192)*b<=281474976710656:=by
 have hb:=zU hb;have hB:=zU hB;refine⟨h1,h2,?_,zO (Nat.mul_le_mul_left _ hb) h3⟩;have:n+m<=min (2*(n+m)) ((n+m)+(n+m)/4+192)*B:=zO (by omega) (Nat.le_mul_of_pos_right _ hB);omega
theorem Kc{O:vX}{b:wq}{r len:Nat}{lim:Option Nat}{n:Nat}(h:n<=len):(n:Int)<=(reach O b r len lim:Nat):=by
 have:len<=reach O b r len lim:=by
  unfold reach;split
  exact zo _
  .split
   exact Nat.le_max_left _ _;exact zo _
 omega
end Go.Sx
namespace Go.Our
open Go.Sx
abbrev Sm(s:List UInt8):Prop:=s.length<=1152921504606846976
abbrev bn(c:UInt8):Int:=(c.toNat:Int)
theorem pS(c:UInt8):0<=bn c/\bn c<256:=by
 have:=c.toNat_lt;unfold bn;omega
theorem ZJ(s:List UInt8)(i:Int):0<=Z1 s i/\Z1 s i<256:=pS _
def Yp(r:Int):Prop:=0<=r/\r<=1114111/\(r<55296\/57343<r)
instance (r:Int):Decidable (Yp r):=by unfold Yp;infer_instance
def Ul(r:Int):Bool:=decide (Yp r)
theorem YT{r:Int}:Ul r=true<->0<=r/\r<=1114111/\(r<55296\/57343<r):=yx
theorem Nl{r:Int}:Ul r=false<->¬(0<=r/\r<=1114111/\(r<55296\/57343<r)):=yl
def nW(c:Int):Int×Int:=
 if c<128 then(1,c)else if c<192 then(0,0)else if c<224 then(2,c%32)else if c<240 then(3,c%16)else if c<248 then(4,c%8)else(0,0)
def Ke(n:Int):Int:=if n=2 then 128 else if n=3 then 2048 else if n=4 then 65536 else 0
theorem Zi0:Ke 1=0:=rfl
theorem Zi1:Ke 2=128:=rfl
theorem Zi2:Ke 3=2048:=rfl
theorem Zi3:Ke 4=65536:=rfl
def r2(a b:Int):Int:=a%32*64+b%64
def r3(a b c:Int):Int:=(a%16*64+b%64)*64+c%64
def r4(a b c d:Int):Int:=((a%8*64+b%64)*64+c%64)*64+d%64
def eL(m a b c d:Int):Int×Int:=
 if a<128 then(a,1)
 else if a<192 then(0,0)
 else if a<224 then
  if 2<=m/\(128<=b/\b<192)/\128<=r2 a b then(r2 a b,2)else(0,0)
 else if a<240 then
  if 3<=m/\(128<=b/\b<192)/\(128<=c/\c<192)/\2048<=r3 a b c/\(r3 a b c<55296\/57343<r3 a b c)then(r3 a b c,3)else(0,0)
 else if a<248 then
  if 4<=m/\(128<=b/\b<192)/\(128<=c/\c<192)/\(128<=d/\d<192)/\65536<=r4 a b c d/\r4 a b c d<=1114111 then(r4 a b c d,4)else(0,0)
 else(0,0)
def Zc(s:List UInt8)(i:Int):Int×Int:=if i<0\/(s.length:Int)<=i then(0,0)else eL (s.length-i) (Z1 s i) (Z1 s (i+1)) (Z1 s (i+2)) (Z1 s (i+3))
theorem ZjC(m a b c d:Int)(h:1<=m):(eL m a b c d).2=0\/1<=(eL m a b c d).2/\(eL m a b c d).2<=4/\(eL m a b c d).2<=m:=by
 unfold eL
 (repeat' split)<;>simp<;>omega
theorem YY(s:List UInt8)(i:Int):(Zc s i).2=0\/1<=(Zc s i).2/\(Zc s i).2<=4/\(Zc s i).2<=s.length-i:=by
 unfold Zc;split
 simp;exact ZjC _ _ _ _ _ (by omega)
def eM(s:List UInt8)(i:Nat):Int:=
 if h:i<s.length/\(Zc s i).2≠0 then eM s (i+(Zc s i).2.toNat)else if i<s.length then i else-1
termination_by s.length-i
decreasing_by have:=YY s i;omega
theorem DE{s:List UInt8}{i:Nat}(h:s.length<=i):eM s i= -1:=by
 rw[eM,yQ (by omega),z7 (by omega)]
theorem Fq{s:List UInt8}{i:Nat}(h:i<s.length)(h0:(Zc s i).2=0):eM s i=i:=by
 rw[eM,yQ (by simp[h0]),zf h]
theorem Fs{s:List UInt8}{i:Nat}(h:i<s.length)(h0:(Zc s i).2≠0):eM s i=eM s (i+(Zc s i).2.toNat):=by
 rw[eM,yp ⟨h,h0⟩]
theorem ZjD(s:List UInt8)(i:Nat): -1<=eM s i:=by
 induction i using eM.induct s with
 |case1 i h ih=>rw[Fs h.1 h.2];exact ih
 |case2 i h hlt=>
  have:(Zc s i).2=0:=by
   apply xS;intro hh;exact h ⟨hlt,hh⟩
  rw[Fq hlt this];omega
 |case3 i h hlt=>rw[DE (by omega)];omega
theorem Z9e(c:Int):(c<128/\nW c=(1,c))\/((128<=c/\c<192\/248<=c)/\nW c=(0,0))\/((192<=c/\c<224)/\nW c=(2,c%32))\/((224<=c/\c<240)/\nW c=(3,c%16))\/((240<=c/\c<248)/\nW c=(4,c%8)):=by
 unfold nW
 (repeat' split)<;>simp<;>omega
theorem Kf{p:Int->Bool}(h:(List.range 256).all (fun n=>p (n:Int))=true){c:Int}(h0:0<=c/\c<256):p c=true:=by
 have:=zT.1 h c.toNat (yj.2 (by omega));rwa [show((c.toNat:Nat):Int)=c by omega]at this
theorem Nn{c:Int}(h:0<=c/\c<256):jY .u8 c 31=c%32:=by
 have:=Kf (p:=fun n=>jY .u8 n 31==n%32) (by decide+kernel) h;simpa using this
theorem Np{c:Int}(h:0<=c/\c<256):jY .u8 c 15=c%16:=by
 have:=Kf (p:=fun n=>jY .u8 n 15==n%16) (by decide+kernel) h;simpa using this
theorem Kg{c:Int}(h:0<=c/\c<256):jY .u8 c 7=c%8:=by
 have:=Kf (p:=fun n=>jY .u8 n 7==n%8) (by decide+kernel) h;simpa using this
theorem ZkB{c:Int}(h:0<=c/\c<256):jY .u8 c 63=c%64:=by
 have:=Kf (p:=fun n=>jY .u8 n 63==n%64) (by decide+kernel) h;simpa using this
theorem ZjG{c:Int}(h:0<=c/\c<256):jY .u8 c 192=c/64*64:=by
 have:=Kf (p:=fun n=>jY .u8 n 192==n/64*64) (by decide+kernel) h;simpa using this
theorem Nq(w n:Nat):(BitVec.ofInt w (n:Int)).toNat=n%2^w:=by
 rw[BitVec.toNat_ofInt];norm_cast
theorem ZjH{k:IntKind}{a b i:Nat}(hb:b<2^i)(h:a*2^i+b<2^k.bits):Qk k ((a*2^i:Nat):Int) (b:Int)=k.wrap ((a*2^i+b:Nat):Int):=by
 unfold Qk
 have h1:(BitVec.ofInt k.bits ((a*2^i:Nat):Int)|||BitVec.ofInt k.bits (b:Int)).toNat=a*2^i+b:=by
  rw[BitVec.toNat_or,Nq,Nq,vt (by omega),vt (by omega)];rw[<-Nat.shiftLeft_eq,Nat.shiftLeft_add_eq_or_of_lt hb]
 rw[h1]
theorem Nr{x c:Int}(hx:0<=x/\x<16777216)(hc:0<=c/\c<256):Qk .i32 (oN .i32 x 6) (IntKind.i32.wrap (jY .u8 c 63))=x*64+c%64:=by
 rw[ZkB hc,Zp (by omega) (by omega)]
 have h1:oN .i32 x 6=((x.toNat*2^6:Nat):Int):=by
  unfold oN;rw[show(min (Int.toNat 6) (IntKind.i32.bits))=6 by decide,show x*2^6=x*64 by rfl,Zp (by omega) (by omega)];omega
 have h2:c%64=(((c%64).toNat:Nat):Int):=by omega
 rw[h1,h2,ZjH (by omega) (by show _<2^32;omega),Zp (by omega) (by omega)];omega
structure Tm where
 k:Int
 t:List UInt8
 y:List UInt8
 l:List UInt8
 deriving DecidableEq
structure Qd where
 s:Tm
 p:Tm
 o:Tm
 g:Tm
 deriving DecidableEq
abbrev fu(x:Tm):Prop:=Sm x.t/\Sm x.y/\Sm x.l
abbrev o7(q:Qd):Prop:=fu q.s/\fu q.p/\fu q.o/\fu q.g
def Tm.sv(x:Tm):SV:= .agg [.int .i64 x.k, .str x.t, .str x.y, .str x.l]
def Qd.sv(q:Qd):SV:= .agg [.int .i64 q.s.k, .str q.s.t, .str q.s.y, .str q.s.l, .int .i64 q.p.k, .str q.p.t, .str q.p.y, .str q.p.l, .int .i64 q.o.k, .str q.o.t, .str q.o.y, .str q.o.l, .int .i64 q.g.k, .str q.g.t, .str q.g.y, .str q.g.l]
def ZC:Tm:=⟨0,[],[],[]⟩
end Go.Our
namespace Go.Sx
open Go
def pW(σ:Nat->Nat)(fr:Fr):Fr->Prop
 | []=>True
 |(t,v)::r=>match u5 t fr with
  |some u=>u=ur σ v/\pW σ fr r
  |none=>False
def Kh(σ:Nat->Nat)(O:vX):vX->Prop
 | []=>True
 |(i,h)::r=>match u5 (σ i) O with
  |some g=>g=um σ h/\Kh σ O r
  |none=>False
theorem Nu{σ:Nat->Nat}{m:Nat}{fr:Fr}:∀{fr':Fr},pW σ fr fr'->Uj m fr'=true->eX σ m fr fr'
 | [],_,_=>trivial
 |(t,v)::r,h,b=>by
  simp only[pW]at h;simp only[Uj,zj]at b;split at h
  .rename_i u hu;obtain⟨rfl,h⟩:=h;exact⟨⟨hu,b.1⟩,Nu h b.2⟩
  exact h.elim
theorem Nv{σ:Nat->Nat}{m:Nat}{O:vX}:∀{O':vX},Kh σ O O'->Zl m O'=true->aV σ m O O'
 | [],_,_=>trivial
 |(t,v)::r,h,b=>by
  simp only[Kh]at h;simp only[Zl,zj]at b;split at h
  .rename_i u hu;obtain⟨rfl,h⟩:=h;exact⟨⟨b.1,hu,b.2.1⟩,Nv h b.2.2⟩
  exact h.elim
theorem vU.uw{M:Mx}{fr:Fr}{O:vX}{nx k:Nat}{fr':Fr}{O':vX}(hk:M.η0.length=k)(J:List Nat)(hτ:J.all (fun i=>Nat.blt i nx)=true)
 (hn:(Zb O').all (fun j=>(Zb O').all fun j'=>!(Nat.beq (YM k J j) (YM k J j'))||Nat.beq j j')=true)
 (sW:Uj (k+J.length) fr'=true) (sX:Zl (k+J.length) O'=true) (hf:pW (YM k J) fr fr') (hO:Kh (YM k J) O O') (hd:lY fr fr'=true:=by rfl) (hro:lZ M.C.ro (YM k J) (k+J.length)=true:=by rfl):vU M fr O nx fr' O' (k+J.length):=
 vU.keep hk J hτ (Nu hf sW) (Nv hO sX) hn hd hro
theorem YA{b b':wq}{r es n n':Nat}{lim:Option Nat}(hb:b=b')(hn:n=n'):SV.sl b r es n lim=SV.sl b' r es n' lim:=by rw[hb,hn]
theorem Zk{es:Nat}{rs rs':List (List SV)}{σ:Nat->Nat}(hp:Zj rs'=true)(h:rs=rs'):Hp.rows es rs=um σ (.rows es rs'):=by rw[Zv σ (h:= .rows es rs') hp,h]
theorem u0.Ki{M:Mx}{O:vX}{nx k:Nat}{r:SV}{Q:SV->vX->Nat->Prop}(hk:M.η0.length=k)(i es len:Nat){rs:List (List SV)}{vs:List SV}(hr:r= .uz (.sl (.loc i) 0 es len none::vs))(hO:u5 i O=some (.rows es rs))(hi:Nat.blt i nx=true)(hp:Zj rs=true)(hv:YJ vs=true)
 (hQ:Q (.uz (.sl (.loc k) 0 es len none::vs)) [(k, .rows es rs)] (k+1)):u0 M O nx r Q:=by
 have hi:i<nx:=by simpa[yR]using hi
 have hf:YM k [i] k=i:=by simp[YM]
 refine u0.keep hk [i] (rc:= .uz (.sl (.loc k) 0 es len none::vs)) (Oc:=[(k, .rows es rs)]) (fun j hj=>by simp at hj;omega) (by rw[hr];simp only[ur,uJ,uS,hf,ZL _ hv]) (by simp[ZV,ZR,WJ,yR,ZE _ hv]) ?_ ?_ hQ
 .intro p hp';simp only[zI]at hp';subst hp';refine⟨by simp,?_,by simp only[Zh,Z2 _ hp]⟩;simp only[um,hf,Zd _ hp,hO]
 .intro j hj j' hj' _;simp[Zb]at hj hj';omega
theorem vS.mono{P:Program}{T:wU}{f:FuncId}{k:Nat}{args:List SV}{O S:vX}{Q Q':SV->vX->Nat->Prop}(h:vS P T f k args O S Q)(hq:∀r O nx,Q r O nx->Q' r O nx):vS P T f k args O S Q':=
 ⟨fun M vs h1 h2 h3 h4 h5 h6=>(h.out M vs h1 h2 h3 h4 h5 h6).mono fun v w' ⟨r,O',vW,η',a,b⟩=>⟨r,O',vW,η',hq _ _ _ a,b⟩⟩
def sY(es:Nat)(rs:List (List SV))(vs:List SV):SV->vX->Nat->Prop:=fun r O nx=>r= .uz (.sl (.loc 0) 0 es rs.length none::vs)/\O=[(0, .rows es rs)]/\nx=1
theorem CALL.DJ{M:Mx}{O:vX}{nx:Nat}{f:FuncId}{args:List SV}{K:SV->vX->Nat->Prop}{es:Nat}{rs:List (List SV)}{vs:List SV}(sp:vS M.P M.C.T f 0 args [] [] (sY es rs vs))(hp:YJ args=true)(jM:Zj rs=true)(hvs:YJ vs=true)
 (hK:K (.uz (.sl (.loc nx) 0 es rs.length none::vs)) ((nx, .rows es rs)::O) (nx+1)):CALL M f args O nx K:=by
 refine CALL.of [] sp rfl (fun i hi=>by cases hi) (ZL _ hp).symm (ZE 0 hp) (fun p hp=>by cases hp) (fun j hj=>by cases hj) (fun p hp=>by cases hp) ?_;rintro r' O' vW ⟨rfl,rfl,rfl⟩;simp only[ur,uJ,uS,qa,um,Zd _ jM,ZL _ hvs,Dz (L:=[]) (nx:=nx) (k:=0) rfl,Zb,yP,Jc,List.cons_append,List.nil_append];exact hK
def mK(es:Nat)(rs:List (List SV)):SV->vX->Nat->Prop:=fun r O nx=>r= .sl (.loc 0) 0 es rs.length none/\O=[(0, .rows es rs)]/\nx=1
theorem CALL.sZ{M:Mx}{O:vX}{nx:Nat}{f:FuncId}{args:List SV}{K:SV->vX->Nat->Prop}{es:Nat}{rs:List (List SV)}(sp:vS M.P M.C.T f 0 args [] [] (mK es rs))(hp:YJ args=true)(jM:Zj rs=true)
 (hK:K (.sl (.loc nx) 0 es rs.length none) ((nx, .rows es rs)::O) (nx+1)):CALL M f args O nx K:=by
 refine CALL.of [] sp rfl (fun i hi=>by cases hi) (ZL _ hp).symm (ZE 0 hp) (fun p hp=>by cases hp) (fun j hj=>by cases hj) (fun p hp=>by cases hp) ?_;rintro r' O' vW ⟨rfl,rfl,rfl⟩;simp only[ur,uS,qa,um,Zd _ jM,Dz (L:=[]) (nx:=nx) (k:=0) rfl,Zb,yP,Jc,List.cons_append,List.nil_append];exact hK
end Go.Sx
namespace Go.Our
open Go.Sx
def encI(r:Int):List Int:=
 if r<128 then [r]else if r<2048 then [192+r/64,128+r%64]else if r<65536 then [224+r/4096,128+r/64%64,128+r%64]
 else [240+r/262144,128+r/4096%64,128+r/64%64,128+r%64]
def mS(x:Int):UInt8:=UInt8.ofNat x.toNat
def qK(r:Int):List UInt8:=(encI r).map mS
def jc:List UInt8->Int
 | [a]=>bn a
 | [a,b]=>(bn a-192)*64+bn b-128
 | [a,b,c]=>((bn a-224)*64+bn b-128)*64+bn c-128
 | [a,b,c,d]=>(((bn a-240)*64+bn b-128)*64+bn c-128)*64+bn d-128
 |_=> -1
def Yc(l:List UInt8):Int:=if Yp (jc l)/\qK (jc l)=l then jc l else-1
theorem ZkE{a b:Int}(h:0<=a):a.tdiv b=a/b:=xe h
theorem ZkF{a b:Int}(h:0<=a):a.tmod b=a%b:=Int.tmod_eq_emod_of_nonneg h
theorem MM{a:Int}(h1:0<=a)(h2:a<=255):IntKind.u8.wrap a=a:=IntWalk.u8_in _ ⟨h1,h2⟩
theorem Cm{x:Int}(h:0<=x/\x<256):((mS x).toNat:Int)=x:=by
 unfold mS;rw[xA (by show x.toNat<256;omega)];omega
theorem Z9t{x:Int}(h:0<=x/\x<256):[SV.int .u8 x]=Sx.bytesRow (mS x):=by
 unfold Sx.bytesRow;rw[Cm h]
theorem Zed(a:UInt8):mS (bn a)=a:=by unfold mS bn;simp
theorem MN{r:Int}(h:0<=r/\r<=1114111):∀x∈encI r,0<=x/\x<256:=by
 unfold encI
 (repeat' split)<;>simp<;>omega
theorem MO:∀{l:List Int},(∀x∈l,0<=x/\x<256)->(l.map mS).map bn=l
 | [],_=>rfl
 |x::l,h=>by
  simp only[zG];rw[MO (fun y hy=>h y (zK _ hy))];unfold bn;rw[Cm (h x (zJ ..))]
theorem MP:∀l:List UInt8,(l.map bn).map mS=l
 | []=>rfl
 |x::l=>by simp only[zG,Zed,MP l]
theorem MQ{r:Int}(h:0<=r/\r<=1114111)(l:List UInt8):qK r=l<->encI r=l.map bn:=by
 unfold qK;constructor
 rintro rfl;rw[MO (MN h)];intro e;rw[e,MP]
theorem Wr{l:List UInt8}(h:Yp (jc l))(e:encI (jc l)=l.map bn):Yc l=jc l:=by
 unfold Yc;exact zf ⟨h,(MQ ⟨h.1,h.2.1⟩ l).2 e⟩
theorem Ws{l:List UInt8}(h:Yp (jc l)->encI (jc l)=l.map bn->False):Yc l= -1:=by
 unfold Yc;exact z7 fun⟨h1,h2⟩=>h h1 ((MQ ⟨h1.1,h1.2.1⟩ l).1 h2)
theorem ZjR(a:UInt8):Yc [a]=if bn a<128 then bn a else-1:=by
 have ha:=pS a;have hw:jc [a]=bn a:=rfl;by_cases h:bn a<128
 .rw[zf h,Wr];omega;unfold Yp;omega
  .rw[hw];unfold encI;simp(disch:=omega) only[↓zf,↓z7,zG,yP,yA,xm];try omega
 .rw[z7 h,Ws];intro h1 h2;unfold Yp at h1;rw[hw]at h2;unfold encI at h2;apply h
  (repeat'(split at h2))<;>simp at h2<;>omega
theorem ZjS(a b:UInt8):Yc [a,b]=if(192<=bn a/\bn a<224)/\(128<=bn b/\bn b<192)/\128<=r2 (bn a) (bn b)then r2 (bn a) (bn b)else-1:=by
 have ha:=pS a;have hb:=pS b;have hw:jc [a,b]=(bn a-192)*64+bn b-128:=rfl;have hr:r2 (bn a) (bn b)=bn a%32*64+bn b%64:=rfl;by_cases h:(192<=bn a/\bn a<224)/\(128<=bn b/\bn b<192)/\128<=r2 (bn a) (bn b)
 .rw[zf h,Wr];omega;unfold Yp;omega
  .rw[hw];unfold encI;simp(disch:=omega) only[↓zf,↓z7,zG,yP,yA,xm];try omega
 .rw[z7 h,Ws];intro h1 h2;unfold Yp at h1;rw[hw]at h2;unfold encI at h2;apply h
  (repeat'(split at h2))<;>simp at h2<;>omega
theorem ZjT(a b c:UInt8):Yc [a,b,c]=if(224<=bn a/\bn a<240)/\(128<=bn b/\bn b<192)/\(128<=bn c/\bn c<192)/\2048<=r3 (bn a) (bn b) (bn c)/\(r3 (bn a) (bn b) (bn c)<55296\/57343<r3 (bn a) (bn b) (bn c))then r3 (bn a) (bn b) (bn c)else-1:=by
 have ha:=pS a;have hb:=pS b;have hc:=pS c;have hw:jc [a,b,c]=((bn a-224)*64+bn b-128)*64+bn c-128:=rfl;have hr:r3 (bn a) (bn b) (bn c)=(bn a%16*64+bn b%64)*64+bn c%64:=rfl;by_cases h:(224<=bn a/\bn a<240)/\(128<=bn b/\bn b<192)/\(128<=bn c/\bn c<192)/\2048<=r3 (bn a) (bn b) (bn c)/\(r3 (bn a) (bn b) (bn c)<55296\/57343<r3 (bn a) (bn b) (bn c))
 .rw[zf h,Wr];omega;unfold Yp;omega
  .rw[hw];unfold encI;simp(disch:=omega) only[↓zf,↓z7,zG,yP,yA,xm];try omega
 .rw[z7 h,Ws];intro h1 h2;unfold Yp at h1;rw[hw]at h2;unfold encI at h2;apply h
  (repeat'(split at h2))<;>simp at h2<;>omega
theorem ZjU(a b c d:UInt8):Yc [a,b,c,d]=if(240<=bn a/\bn a<248)/\(128<=bn b/\bn b<192)/\(128<=bn c/\bn c<192)/\(128<=bn d/\bn d<192)/\65536<=r4 (bn a) (bn b) (bn c) (bn d)/\r4 (bn a) (bn b) (bn c) (bn d)<=1114111 then r4 (bn a) (bn b) (bn c) (bn d)else-1:=by
 have ha:=pS a;have hb:=pS b;have hc:=pS c;have hd:=pS d;have hw:jc [a,b,c,d]=(((bn a-240)*64+bn b-128)*64+bn c-128)*64+bn d-128:=rfl;have hr:r4 (bn a) (bn b) (bn c) (bn d)=((bn a%8*64+bn b%64)*64+bn c%64)*64+bn d%64:=rfl;by_cases h:(240<=bn a/\bn a<248)/\(128<=bn b/\bn b<192)/\(128<=bn c/\bn c<192)/\(128<=bn d/\bn d<192)/\65536<=r4 (bn a) (bn b) (bn c) (bn d)/\r4 (bn a) (bn b) (bn c) (bn d)<=1114111
 .rw[zf h,Wr];omega;unfold Yp;omega
  .rw[hw];unfold encI;simp(disch:=omega) only[↓zf,↓z7,zG,yP,yA,xm];try omega
 .rw[z7 h,Ws];intro h1 h2;unfold Yp at h1;rw[hw]at h2;unfold encI at h2;apply h
  (repeat'(split at h2))<;>simp at h2<;>omega
theorem Xe{s:List UInt8}{n:Nat}(h:n<s.length):s.drop n=s.getD n 0::s.drop (n+1):=by
 rw[zm h];simp[List.getD,h]
theorem Xt(s:List UInt8)(i:Int)(k:Nat)(hi:0<=i):bn (s.getD (i.toNat+k) 0)=Z1 s (i+k):=by
 unfold Z1 bn;rw[show(i+(k:Int)).toNat=i.toNat+k by omega]
section
variable {s:List UInt8}{i:Int}
theorem Zii(h:0<=i/\i+1<=s.length):Yc ((s.drop i.toNat).take ((i+1).toNat-i.toNat))=if Z1 s i<128 then Z1 s i else-1:=by
 rw[show(i+1).toNat-i.toNat=1 by omega,Xe (by omega)];simp only[List.take_succ_cons,List.take_zero,ZjR];have e0:=Xt s i 0 h.1;simp only[Nat.add_zero,Int.natCast_zero,Int.add_zero]at e0;rw[e0]
theorem Zij(h:0<=i/\i+2<=s.length):Yc ((s.drop i.toNat).take ((i+2).toNat-i.toNat))=if(192<=Z1 s i/\Z1 s i<224)/\(128<=Z1 s (i+1)/\Z1 s (i+1)<192)/\128<=r2 (Z1 s i) (Z1 s (i+1))then r2 (Z1 s i) (Z1 s (i+1))else-1:=by
 rw[show(i+2).toNat-i.toNat=2 by omega,Xe (by omega),Xe (n:=i.toNat+1) (by omega)];simp only[List.take_succ_cons,List.take_zero,ZjS];have e0:=Xt s i 0 h.1;have e1:bn (s.getD (i.toNat+1) 0)=Z1 s (i+1):=Xt s i 1 h.1;simp only[Nat.add_zero,Int.natCast_zero,Int.add_zero]at e0;rw[e0,e1]
theorem Zik(h:0<=i/\i+3<=s.length):Yc ((s.drop i.toNat).take ((i+3).toNat-i.toNat))=if(224<=Z1 s i/\Z1 s i<240)/\(128<=Z1 s (i+1)/\Z1 s (i+1)<192)/\(128<=Z1 s (i+2)/\Z1 s (i+2)<192)/\2048<=r3 (Z1 s i) (Z1 s (i+1)) (Z1 s (i+2))/\(r3 (Z1 s i) (Z1 s (i+1)) (Z1 s (i+2))<55296\/57343<r3 (Z1 s i) (Z1 s (i+1)) (Z1 s (i+2)))then r3 (Z1 s i) (Z1 s (i+1)) (Z1 s (i+2))else-1:=by
 rw[show(i+3).toNat-i.toNat=3 by omega,Xe (by omega),Xe (n:=i.toNat+1) (by omega),Xe (n:=i.toNat+1+1) (by omega)];simp only[List.take_succ_cons,List.take_zero,ZjT];have e0:=Xt s i 0 h.1;have e1:bn (s.getD (i.toNat+1) 0)=Z1 s (i+1):=Xt s i 1 h.1;have e2:bn (s.getD (i.toNat+1+1) 0)=Z1 s (i+2):=Xt s i 2 h.1;simp only[Nat.add_zero,Int.natCast_zero,Int.add_zero]at e0;rw[e0,e1,e2]
theorem Zil(h:0<=i/\i+4<=s.length):Yc ((s.drop i.toNat).take ((i+4).toNat-i.toNat))=if(240<=Z1 s i/\Z1 s i<248)/\(128<=Z1 s (i+1)/\Z1 s (i+1)<192)/\(128<=Z1 s (i+2)/\Z1 s (i+2)<192)/\(128<=Z1 s (i+3)/\Z1 s (i+3)<192)/\65536<=r4 (Z1 s i) (Z1 s (i+1)) (Z1 s (i+2)) (Z1 s (i+3))/\r4 (Z1 s i) (Z1 s (i+1)) (Z1 s (i+2)) (Z1 s (i+3))<=1114111 then r4 (Z1 s i) (Z1 s (i+1)) (Z1 s (i+2)) (Z1 s (i+3))else-1:=by
 rw[show(i+4).toNat-i.toNat=4 by omega,Xe (by omega),Xe (n:=i.toNat+1) (by omega),Xe (n:=i.toNat+1+1) (by omega),Xe (n:=i.toNat+1+1+1) (by omega)];simp only[List.take_succ_cons,List.take_zero,ZjU];have e0:=Xt s i 0 h.1;have e1:bn (s.getD (i.toNat+1) 0)=Z1 s (i+1):=Xt s i 1 h.1;have e2:bn (s.getD (i.toNat+1+1) 0)=Z1 s (i+2):=Xt s i 2 h.1;have e3:bn (s.getD (i.toNat+1+1+1) 0)=Z1 s (i+3):=Xt s i 3 h.1;simp only[Nat.add_zero,Int.natCast_zero,Int.add_zero]at e0;rw[e0,e1,e2,e3]
theorem Z8c(h:0<=i/\i<s.length):Zc s i=if 0<=Yc ((s.drop i.toNat).take ((i+1).toNat-i.toNat))then(Yc ((s.drop i.toNat).take ((i+1).toNat-i.toNat)),1)else if 2<=s.length-i/\0<=Yc ((s.drop i.toNat).take ((i+2).toNat-i.toNat))then(Yc ((s.drop i.toNat).take ((i+2).toNat-i.toNat)),2)else if 3<=s.length-i/\0<=Yc ((s.drop i.toNat).take ((i+3).toNat-i.toNat))then(Yc ((s.drop i.toNat).take ((i+3).toNat-i.toNat)),3)else if 4<=s.length-i/\0<=Yc ((s.drop i.toNat).take ((i+4).toNat-i.toNat))then(Yc ((s.drop i.toNat).take ((i+4).toNat-i.toNat)),4)else(0,0):=by
 have e0:=ZJ s i;have e1:=ZJ s (i+1);have e2:=ZJ s (i+2);have e3:=ZJ s (i+3);have q2:r2 (Z1 s i) (Z1 s (i+1))=Z1 s i%32*64+Z1 s (i+1)%64:=rfl;have q3:r3 (Z1 s i) (Z1 s (i+1)) (Z1 s (i+2))=(Z1 s i%16*64+Z1 s (i+1)%64)*64+Z1 s (i+2)%64:=rfl;have q4:r4 (Z1 s i) (Z1 s (i+1)) (Z1 s (i+2)) (Z1 s (i+3))=((Z1 s i%8*64+Z1 s (i+1)%64)*64+Z1 s (i+2)%64)*64+Z1 s (i+3)%64:=rfl;have g1:=Zii (s:=s) (i:=i) (by omega);have g2:=fun h2:i+2<=s.length=>Zij (s:=s) (i:=i) ⟨h.1,h2⟩;have g3:=fun h3:i+3<=s.length=>Zik (s:=s) (i:=i) ⟨h.1,h3⟩;have g4:=fun h4:i+4<=s.length=>Zil (s:=s) (i:=i) ⟨h.1,h4⟩;generalize Yc ((s.drop i.toNat).take ((i+1).toNat-i.toNat))=x1 at*;generalize Yc ((s.drop i.toNat).take ((i+2).toNat-i.toNat))=x2 at*;generalize Yc ((s.drop i.toNat).take ((i+3).toNat-i.toNat))=x3 at*;generalize Yc ((s.drop i.toNat).take ((i+4).toNat-i.toNat))=x4 at*;unfold Zc eL;rw[z7 (by omega)];generalize r2 (Z1 s i) (Z1 s (i+1))=y2 at*;generalize r3 (Z1 s i) (Z1 s (i+1)) (Z1 s (i+2))=y3 at*;generalize r4 (Z1 s i) (Z1 s (i+1)) (Z1 s (i+2)) (Z1 s (i+3))=y4 at*;generalize Z1 s i=a at*;generalize Z1 s (i+1)=b at*;generalize Z1 s (i+2)=c at*;generalize Z1 s (i+3)=d at*;by_cases c1:a<128
 .rw[zf c1]at g1⊢;rw[zf (show 0<=x1 by omega),g1]
 rw[z7 c1]at g1⊢;rw[z7 (show ¬0<=x1 by omega)];have key:a<192\/(192<=a/\a<224)\/(224<=a/\a<240)\/(240<=a/\a<248)\/248<=a:=by omega
 rcases key with ha|ha|ha|ha|ha
 .simp(disch:=omega) only[↓z7]at g2 g3 g4;simp(disch:=omega) only[↓zf,↓z7]
 .by_cases hq:(128<=b/\b<192)/\128<=y2
  all_goals simp(disch:=omega) only[↓z7,↓zf]at g2 g3 g4
  all_goals by_cases hm:2<=(s.length:Int)-i
  all_goals simp(disch:=omega) only[↓zf,↓z7]
  rw[g2 (by omega)]
 .by_cases hq:(128<=b/\b<192)/\(128<=c/\c<192)/\2048<=y3/\(y3<55296\/57343<y3)
  all_goals simp(disch:=omega) only[↓z7,↓zf]at g2 g3 g4
  all_goals by_cases hm:3<=(s.length:Int)-i
  all_goals simp(disch:=omega) only[↓zf,↓z7]
  rw[g3 (by omega)]
 .by_cases hq:(128<=b/\b<192)/\(128<=c/\c<192)/\(128<=d/\d<192)/\65536<=y4/\y4<=1114111
  all_goals simp(disch:=omega) only[↓z7,↓zf]at g2 g3 g4
  all_goals by_cases hm:4<=(s.length:Int)-i
  all_goals simp(disch:=omega) only[↓zf,↓z7]
  rw[g4 (by omega)]
 .simp(disch:=omega) only[↓z7]at g2 g3 g4;simp(disch:=omega) only[↓zf,↓z7]
end
abbrev qp(s:List UInt8)(i:Nat):Nat×Nat:=Utf8.decode ⟨s.toArray⟩ i
theorem Zga(s:List UInt8)(j:Nat):((ByteArray.mk s.toArray).get! j).toNat=(s.getD j 0).toNat:=by
 unfold ByteArray.get!;simp[List.getD,Array.getElem!_eq_getD]
 rfl
def cO(m b0 b1 b2 b3:Nat):Nat×Nat:=
 if b0<128 then(b0,1)
 else if b0/32=6/\1<m/\b1/64=2 then if 128<=b0%32*64+b1%64 then(b0%32*64+b1%64,2)else(65533,1)
 else if b0/16=14/\(1<m/\b1/64=2)/\(2<m/\b2/64=2)then
  if 2048<=b0%16*4096+b1%64*64+b2%64/\(b0%16*4096+b1%64*64+b2%64<55296\/57344<=b0%16*4096+b1%64*64+b2%64)then(b0%16*4096+b1%64*64+b2%64,3)else(65533,1)
 else if b0/8=30/\(1<m/\b1/64=2)/\(2<m/\b2/64=2)/\(3<m/\b3/64=2)then
  if 65536<=b0%8*262144+b1%64*4096+b2%64*64+b3%64/\b0%8*262144+b1%64*4096+b2%64*64+b3%64<=1114111 then(b0%8*262144+b1%64*4096+b2%64*64+b3%64,4)else(65533,1)
 else(65533,1)
theorem U3(s:List UInt8)(i:Nat):qp s i=cO (s.length-i) (s.getD i 0).toNat (s.getD (i+1) 0).toNat (s.getD (i+2) 0).toNat (s.getD (i+3) 0).toNat:=by
 unfold qp Utf8.decode cO;simp only[Zga,Nat.add_zero];have hsz:(ByteArray.mk s.toArray).size=s.length:=by simp[ByteArray.size]
 rw[hsz];generalize(s.getD i 0).toNat=b0;generalize(s.getD (i+1) 0).toNat=b1;generalize(s.getD (i+2) 0).toNat=b2;generalize(s.getD (i+3) 0).toNat=b3;have e:∀k,(i+k<s.length)=(k<s.length-i):=fun k=>by simp;omega
 simp only[zj,xh,yw,e,Utf8.valid,Utf8.runeError,yU,ge_iff_le];by_cases c1:b0<128
 simp[c1];by_cases c2:b0/32=6/\1<s.length-i/\b1/64=2
 simp[c1,c2];by_cases c3:b0/16=14/\(1<s.length-i/\b1/64=2)/\(2<s.length-i/\b2/64=2)
 .have KH:(b0/16=14/\(1<s.length-i/\b1/64=2))/\(2<s.length-i/\b2/64=2):=⟨⟨c3.1,c3.2.1⟩,c3.2.2⟩;rw[z7 c1,z7 c2,zf KH,z7 c1,z7 c2,zf c3];congr 1;simp;omega
 by_cases c4:b0/8=30/\(1<s.length-i/\b1/64=2)/\(2<s.length-i/\b2/64=2)/\(3<s.length-i/\b3/64=2)
 .have Cn:((b0/8=30/\(1<s.length-i/\b1/64=2))/\(2<s.length-i/\b2/64=2))/\(3<s.length-i/\b3/64=2):=⟨⟨⟨c4.1,c4.2.1⟩,c4.2.2.1⟩,c4.2.2.2⟩;have KH:¬((b0/16=14/\(1<s.length-i/\b1/64=2))/\(2<s.length-i/\b2/64=2)):=fun h=>c3 ⟨h.1.1,h.1.2,h.2⟩;rw[z7 c1,z7 c2,z7 KH,zf Cn,z7 c1,z7 c2,z7 c3,zf c4];congr 1;simp;omega
 .have Cn:¬(((b0/8=30/\(1<s.length-i/\b1/64=2))/\(2<s.length-i/\b2/64=2))/\(3<s.length-i/\b3/64=2)):=fun h=>c4 ⟨h.1.1.1,h.1.1.2,h.1.2,h.2⟩;have KH:¬((b0/16=14/\(1<s.length-i/\b1/64=2))/\(2<s.length-i/\b2/64=2)):=fun h=>c3 ⟨h.1.1,h.1.2,h.2⟩;rw[z7 c1,z7 c2,z7 KH,z7 Cn,z7 c1,z7 c2,z7 c3,z7 c4]
theorem FU(s:List UInt8)(i:Nat):1<=(qp s i).2:=by
 rw[U3];unfold cO
 (repeat' split)<;>simp
theorem Co(s:List UInt8)(i:Nat)(h:i<s.length):i+(qp s i).2<=s.length:=by
 rw[U3];unfold cO
 (repeat' split)<;>simp<;>omega
theorem Z9u(s:List UInt8)(i:Nat):Yp ((qp s i).1:Int):=by
 have h:=(s.getD i 0).toNat_lt;rw[U3];unfold cO Yp;generalize(s.getD i 0).toNat=b0 at*;generalize(s.getD (i+1) 0).toNat=b1 at*;generalize(s.getD (i+2) 0).toNat=b2 at*;generalize(s.getD (i+3) 0).toNat=b3 at*
 (repeat' split)<;>simp<;>omega
theorem Wt{s:List UInt8}{i:Nat}(h:Z1 s i<128):qp s i=((Z1 s i).toNat,1):=by
 have e:Z1 s i=((s.getD i 0).toNat:Int):=rfl;rw[U3];unfold cO;rw[e]at h⊢;clear e;generalize(s.getD i 0).toNat=b0 at*;generalize(s.getD (i+1) 0).toNat=b1 at*;generalize(s.getD (i+2) 0).toNat=b2 at*;generalize(s.getD (i+3) 0).toNat=b3 at*;rw[zf (by omega)];simp
theorem Cp{s:List UInt8}{i:Nat}(h:128<=Z1 s i):128<=(qp s i).1:=by
 have e:Z1 s i=((s.getD i 0).toNat:Int):=rfl;have l0:=(s.getD i 0).toNat_lt;rw[U3];unfold cO;rw[e]at h;clear e;generalize(s.getD i 0).toNat=b0 at*;generalize(s.getD (i+1) 0).toNat=b1 at*;generalize(s.getD (i+2) 0).toNat=b2 at*;generalize(s.getD (i+3) 0).toNat=b3 at*
 (repeat' split)<;>simp<;>omega
theorem Zef{s:List UInt8}{i:Nat}(hi:i<s.length)(h:(Zc s i).2≠0):((qp s i).1:Int)=(Zc s i).1/\((qp s i).2:Int)=(Zc s i).2:=by
 have l0:=(s.getD i 0).toNat_lt;have l1:=(s.getD (i+1) 0).toNat_lt;have l2:=(s.getD (i+2) 0).toNat_lt;have l3:=(s.getD (i+3) 0).toNat_lt;have e0:Z1 s i=((s.getD i 0).toNat:Int):=rfl;have e1:Z1 s ((i:Int)+1)=((s.getD (i+1) 0).toNat:Int):=rfl;have e2:Z1 s ((i:Int)+2)=((s.getD (i+2) 0).toNat:Int):=rfl;have e3:Z1 s ((i:Int)+3)=((s.getD (i+3) 0).toNat:Int):=rfl;rw[U3];unfold Zc eL r2 r3 r4 at h⊢;rw[z7 (show ¬((i:Int)<0\/(s.length:Int)<=i)by omega)]at h⊢;simp only[e0,e1,e2,e3]at h⊢;clear e0 e1 e2 e3;unfold cO;generalize(s.getD i 0).toNat=b0 at*;generalize(s.getD (i+1) 0).toNat=b1 at*;generalize(s.getD (i+2) 0).toNat=b2 at*;generalize(s.getD (i+3) 0).toNat=b3 at*;rcases(by omega:(b0:Int)<128\/(128<=(b0:Int)/\(b0:Int)<192)\/(192<=(b0:Int)/\(b0:Int)<224)\/(224<=(b0:Int)/\(b0:Int)<240)\/(240<=(b0:Int)/\(b0:Int)<248)\/248<=(b0:Int))with ha|ha|ha|ha|ha|ha
 simp(disch:=omega) only[↓zf,↓z7];simp;simp(disch:=omega) only[↓zf,↓z7]at h;simp at h
 .simp(disch:=omega) only[↓z7,↓zf]at h⊢;split at h
  .rename_i hc;simp(disch:=omega) only[↓z7,↓zf];simp<;>omega
  simp at h
 .simp(disch:=omega) only[↓z7,↓zf]at h⊢;split at h
  .rename_i hc;simp(disch:=omega) only[↓z7,↓zf];simp<;>omega
  simp at h
 .simp(disch:=omega) only[↓z7,↓zf]at h⊢;split at h
  .rename_i hc;simp(disch:=omega) only[↓z7,↓zf];simp<;>omega
  simp at h
 simp(disch:=omega) only[↓zf,↓z7]at h;simp at h
theorem Zeg{r:Int}(h:Yp r):(Utf8.encode r).data.toList=qK r:=by
 unfold Yp at h;have hv:Utf8.valid r=true:=by simp[Utf8.valid];omega
 obtain⟨n,rfl⟩:∃n:Nat,r=n:=⟨r.toNat,by omega⟩;unfold Utf8.encode qK encI mS;simp only[hv,yJ,Int.toNat_natCast];rcases(by omega:n<128\/(128<=n/\n<2048)\/(2048<=n/\n<65536)\/65536<=n)with c|c|c|c
 all_goals simp(disch:=omega) only[↓zf,↓z7,zG,yP]
 all_goals
  simp only[yA,xm]
  (repeat'(first|rfl|refine⟨?_,?_⟩))<;>congr 1<;>omega
theorem Zgb{r:Int}(h:128<=r):2<=(qK r).length/\(qK r).length<=4:=by
 unfold qK encI
 (repeat' split)<;>simp<;>omega
theorem Zeh{r:Int}(hs:Yp r)(h:128<=r):∀c∈qK r,128<=bn c:=by
 have hl:=MN ⟨hs.1,hs.2.1⟩;intro c hc;unfold qK at hc;obtain⟨x,hx,rfl⟩:=yc.1 hc;have:=hl x hx;unfold bn;rw[Cm this];unfold Yp at hs;unfold encI at hx
 (repeat'(split at hx))<;>simp at hx<;>omega
def Barred(c:Int):Prop:=c<=32\/c=60\/c=62\/c=34\/c=123\/c=125\/c=124\/c=94\/c=96\/c=92
instance (c:Int):Decidable (Barred c):=by unfold Barred;infer_instance
def VP(c:Int):Bool:=decide (Barred c)
theorem MR{c:Int}:VP c=true<->Barred c:=yx
theorem Z6t{c:Int}:VP c=false<->¬Barred c:=yl
def bars:List UInt8:=[60,62,34,123,125,124,94,96,92]
def gm(p:Int->Bool)(s:List UInt8)(i:Nat):Int:=
 if h:i<s.length then if p ((qp s i).1:Int)then i else gm p s (i+(qp s i).2)else-1
termination_by s.length-i
decreasing_by have:=FU s i;omega
theorem MS{p:Int->Bool}{s:List UInt8}{i:Nat}(h:s.length<=i):gm p s i= -1:=by rw[gm,yQ (by omega)]
theorem MT{p:Int->Bool}{s:List UInt8}{i:Nat}(h:i<s.length)(hp:p ((qp s i).1:Int)=true):gm p s i=i:=by rw[gm,yp h,zf hp]
theorem Cq{p:Int->Bool}{s:List UInt8}{i:Nat}(h:i<s.length)(hp:p ((qp s i).1:Int)=false):gm p s i=gm p s (i+(qp s i).2):=by
 conv=>lhs;rw[gm]
 rw[yp h,z7 (by simp[hp])]
def gp(p:Int->Bool)(s:List UInt8)(i:Nat):Bool:=
 if h:i<s.length then p (Z1 s i)||gp p s (i+1)else false
termination_by s.length-i
theorem Cr{p:Int->Bool}{s:List UInt8}{i:Nat}(h:s.length<=i):gp p s i=false:=by rw[gp,yQ (by omega)]
theorem KJ{p:Int->Bool}{s:List UInt8}{i:Nat}(h:i<s.length):gp p s i=(p (Z1 s i)||gp p s (i+1)):=by
 conv=>lhs;rw[gp]
 rw[yp h]
theorem Zej{p:Int->Bool}{s:List UInt8}{i n:Nat}(h:i+n<=s.length)(hp:∀k:Nat,k<n->p (Z1 s (i+k:Nat))=false):gp p s i=gp p s (i+n):=by
 induction n with
 |zero=>rfl
 |succ n ih=>
  rw[ih (by omega) (fun k hk=>hp k (by omega)),KJ (by omega),hp n (by omega),xE];rfl
theorem Z9v{s:List UInt8}{i:Nat}(hi:i<s.length)(h:(Zc s i).2≠0)(h1:128<=Z1 s i):∀k:Nat,k< (Zc s i).2.toNat->128<=Z1 s (i+k:Nat):=by
 have e0:=ZJ s i;have e1:=ZJ s (i+1);have e2:=ZJ s (i+2);have e3:=ZJ s (i+3);unfold Zc eL at h⊢;rw[z7 (show ¬((i:Int)<0\/(s.length:Int)<=i)by omega)]at h⊢;intro k hk
 have hb:(k=0/\Z1 s (i+k:Nat)=Z1 s i)\/(k=1/\Z1 s (i+k:Nat)=Z1 s (i+1))\/(k=2/\Z1 s (i+k:Nat)=Z1 s (i+2))\/(k=3/\Z1 s (i+k:Nat)=Z1 s (i+3))\/4<=k:=by
  rcases(by omega:k=0\/k=1\/k=2\/k=3\/4<=k)with rfl|rfl|rfl|rfl|h
  exact .inl ⟨rfl,rfl⟩;exact .inr (.inl ⟨rfl,rfl⟩);exact .inr (.inr (.inl ⟨rfl,rfl⟩));exact .inr (.inr (.inr (.inl ⟨rfl,rfl⟩)));exact .inr (.inr (.inr (.inr h)))
 generalize Z1 s (i+k:Nat)=x at*;generalize Z1 s i=a at*;generalize Z1 s (i+1)=b at*;generalize Z1 s (i+2)=c at*;generalize Z1 s (i+3)=d at*;rw[z7 (show ¬a<128 by omega)]at h hk
 (repeat'(split at hk))<;>simp at hk<;>omega
theorem Z8d(p:Int->Bool)(hp:∀c,128<=c->p c=false)(s:List UInt8)(i:Nat):eM s i= -1->(0<=gm p s i<->gp p s i=true):=by
 induction i using eM.induct s with
 |case1 i h ih=>
  intro hc;rw[Fs h.1 h.2]at hc;have hn:=YY s i;have hd:=Zef h.1 h.2;have e0:=ZJ s i;by_cases ha:Z1 s i<128
  .have hd':=Wt ha;have h1:(Zc s i).2=1:=by rw[hd']at hd;simp at hd;omega
   rw[KJ h.1];by_cases hb:p (Z1 s i)=true
   .rw[MT h.1 (by rw[hd'];simp only;rw[show((Z1 s i).toNat:Int)=Z1 s i by omega];exact hb)];simp[hb]
   .have hb:p (Z1 s i)=false:=by simpa using hb
    rw[Cq h.1 (by rw[hd'];simp only;rw[show((Z1 s i).toNat:Int)=Z1 s i by omega];exact hb),hb,xE];have:=ih hc;rw[h1]at this;rw[hd'];exact this
  .have ha:128<=Z1 s i:=by omega
   rw[Cq h.1 (hp _ (by have:=Cp ha;omega))];rw[Zej (n:=(Zc s i).2.toNat) (by omega) (fun k hk=>hp _ (Z9v h.1 h.2 ha k hk))];have:=ih hc;rw[show(qp s i).2=(Zc s i).2.toNat by omega];exact this
 |case2 i h hlt=>
  intro hc
  have:(Zc s i).2=0:=by
   apply xS;intro hh;exact h ⟨hlt,hh⟩
  rw[Fq hlt this]at hc;omega
 |case3 i h hlt=>
  intro _;rw[MS (by omega),Cr (by omega)];simp
def dN(s:List UInt8):Int:=
 if 65536<s.length then 2 else if 0<=eM s 0 then 40 else if gp VP s 0 then 50 else 0
def XY(c:Int):Prop:=(97<=c/\c<=122)\/(65<=c/\c<=90)
def dO(c:Int):Prop:=(48<=c/\c<=57)\/c=43\/c=45\/c=46
instance (c:Int):Decidable (XY c):=by unfold XY;infer_instance
instance (c:Int):Decidable (dO c):=by unfold dO;infer_instance
def qL(s:List UInt8)(i:Nat):Int:=
 if h:i<s.length then if Z1 s i=58 then i else if XY (Z1 s i)\/i≠0/\dO (Z1 s i)then qL s (i+1)else 0 else 0
termination_by s.length-i
theorem FV{s:List UInt8}{i:Nat}(h:s.length<=i):qL s i=0:=by rw[qL,yQ (by omega)]
theorem Wu{s:List UInt8}{i:Nat}(h:i<s.length)(hc:Z1 s i=58):qL s i=i:=by rw[qL,yp h,zf hc]
theorem Cs{s:List UInt8}{i:Nat}(h:i<s.length)(hc:¬Z1 s i=58)(hl:XY (Z1 s i)\/i≠0/\dO (Z1 s i)):qL s i=qL s (i+1):=by
 conv=>lhs;rw[qL]
 rw[yp h,z7 hc,zf hl]
theorem Ct{s:List UInt8}{i:Nat}(h:i<s.length)(hc:¬Z1 s i=58)(hl:¬(XY (Z1 s i)\/i≠0/\dO (Z1 s i))):qL s i=0:=by
 rw[qL,yp h,z7 hc,z7 hl]
theorem Zgc(s:List UInt8)(i:Nat):0<=qL s i/\qL s i<=s.length:=by
 induction i using qL.induct s with
 |case1 i h hc=>rw[Wu h hc];omega
 |case2 i h hc hl ih=>rw[Cs h hc hl];exact ih
 |case3 i h hc hl=>rw[Ct h hc hl];omega
 |case4 i h=>rw[FV (by omega)];omega
def dP(s:List UInt8):Int:=if dN s≠0 then dN s else if qL s 0=0 then 51 else 0
theorem WP{c:UInt8}:∀{l:List UInt8},c∉l->Lib.indexByte l c= -1
 | [],_=>rfl
 |b::l,h=>by
  have h1:¬b=c:=fun e=>h (by rw[e];exact zJ ..);have h2:c∉l:=fun e=>h (zK _ e);unfold Lib.indexByte;rw[WP h2];simp[h1]
theorem Cu(i:Int):Z1 bars i<128:=by
 unfold Z1;by_cases h:i.toNat<9
 .have:∀n:Nat,n<9->((bars.getD n 0).toNat:Int)<128:=by decide
  exact this _ h
 .have:bars.getD i.toNat 0=0:=by simp[List.getD,bars];rw[zW (by simp;omega)];rfl
  rw[this];decide
theorem Zgd:∀c∈bars,c.toNat<128:=by decide
theorem Zc5{s:List UInt8}{i:Int}(h:0<=i/\i<s.length):∃c∈s,Z1 s i=bn c:=by
 have:i.toNat<s.length:=by omega
 refine⟨s[i.toNat],zk this,?_⟩;unfold Z1 bn;simp[List.getD,this]
theorem Zge{l:List UInt8}{c:Int}(h:128<=c/\c<256)(hl:∀b∈l,b.toNat<128):Lib.indexByte l c.toNat.toUInt8= -1:=by
 apply WP;intro hm;have h1:=hl _ hm
 have:c.toNat.toUInt8.toNat=c.toNat:=by
  rw[Nat.toUInt8_eq,xA (by show c.toNat<256;omega)]
 omega
def nh(r:Int):Prop:=(65<=r/\r<=90)\/(97<=r/\r<=122)\/(192<=r/\r<=214)\/(216<=r/\r<=246)\/(248<=r/\r<=767)\/(880<=r/\r<=893)\/(895<=r/\r<=8191)\/(8204<=r/\r<=8205)\/(8304<=r/\r<=8591)\/(11264<=r/\r<=12271)\/(12289<=r/\r<=55295)\/(63744<=r/\r<=64975)\/(65008<=r/\r<=65533)\/(65536<=r/\r<=983039)
instance (r:Int):Decidable (nh r):=by unfold nh;infer_instance
def mT(r:Int):Prop:=nh r\/r=95
instance (r:Int):Decidable (mT r):=by unfold mT;infer_instance
def W3(r:Int):Prop:=48<=r/\r<=57
instance (r:Int):Decidable (W3 r):=by unfold W3;infer_instance
def X0(r:Int):Prop:=mT r\/W3 r\/r=45\/r=183\/(768<=r/\r<=879)\/r=8255\/r=8256
instance (r:Int):Decidable (X0 r):=by unfold X0;infer_instance
def Vh(r:Int):Prop:=mT r\/W3 r
instance (r:Int):Decidable (Vh r):=by unfold Vh;infer_instance
def qG(s:List UInt8)(i e:Nat):Nat:=
 if h:(Zc s i).2≠0/\((Zc s i).1=46\/X0 (Zc s i).1)then
  qG s (i+(Zc s i).2.toNat) (if(Zc s i).1=46 then e else i+(Zc s i).2.toNat)
 else e
termination_by s.length-i
decreasing_by
 have:=YY s i;omega
theorem Cv{s:List UInt8}{i e:Nat}(h:(Zc s i).2≠0/\((Zc s i).1=46\/X0 (Zc s i).1)):qG s i e=qG s (i+(Zc s i).2.toNat) (if(Zc s i).1=46 then e else i+(Zc s i).2.toNat):=by
 conv=>lhs;rw[qG]
 rw[yp h]
theorem Cw{s:List UInt8}{i e:Nat}(h:¬((Zc s i).2≠0/\((Zc s i).1=46\/X0 (Zc s i).1))):qG s i e=e:=by
 rw[qG,yQ h]
theorem Zek(s:List UInt8)(i e:Nat)(h:e<=i):e<=qG s i e/\(i<=s.length->qG s i e<=s.length):=by
 induction i,e using qG.induct s with
 |case1 i e h1 ih=>
  have hn:=YY s i;rw[Cv h1];split
  .rename_i h2;rw[yp h2]at ih;have:=ih (by omega);exact⟨this.1,fun _=>this.2 (by omega)⟩
  .rename_i h2;rw[yQ h2]at ih;have:=ih (by omega);exact⟨by omega,fun _=>this.2 (by omega)⟩
 |case2 i e h1=>rw[Cw h1];exact⟨by omega,fun _=>by omega⟩
def runM(p:Int->Prop)[DecidablePred p](s:List UInt8)(i:Int):Int:=
 if(Zc s i).2=0\/¬p (Zc s i).1 then 0 else(qG s (i.toNat+(Zc s i).2.toNat) (i.toNat+(Zc s i).2.toNat):Int)-i
def mU(s:List UInt8)(i:Nat):Bool:=
 if h:(Zc s i).2≠0 then
  decide ((Zc s i).1=46\/X0 (Zc s i).1)&&decide ((Zc s i).1=46->i+(Zc s i).2.toNat≠s.length)&&mU s (i+(Zc s i).2.toNat)
 else decide (s.length<=i)
termination_by s.length-i
decreasing_by have:=YY s i;omega
theorem Zc6:¬X0 46:=by unfold X0 mT nh W3;omega
theorem Cy{s:List UInt8}{i:Nat}(h:s.length<=i):(Zc s i).2=0:=by unfold Zc;rw[zf (by omega)]
theorem Zc7(s:List UInt8)(i e:Nat)(h:e<=i)(hi:i<=s.length):qG s i e=s.length<->(if i=s.length then e=s.length else mU s i=true):=by
 induction i,e using qG.induct s with
 |case1 i e h1 ih=>
  have hn:=YY s i;rw[Cv h1];rw[z7 (show ¬i=s.length by omega)];conv=>rhs;rw[mU]
  rw[yp h1.1];by_cases h2:(Zc s i).1=46
  .rw[yp h2]at ih;rw[zf h2];rw[ih (by omega) (by omega)];split
   rename_i h3;simp[h2,h3];omega;rename_i h3;simp[h2,h3]
  .rw[yQ h2]at ih;rw[z7 h2];rw[ih (by omega) (by omega)];have h4:X0 (Zc s i).1:=by rcases h1.2 with h|h;exact(h2 h).elim;exact h
   split
   .rename_i h3;simp[h2,h3,h4];rw[mU,yQ (by rw[Cy (zo _)];simp)];simp
   rename_i h3;simp[h2,h4]
 |case2 i e h1=>
  rw[Cw h1];split
  exact xF
  .rename_i h2;rw[mU];by_cases h3:(Zc s i).2≠0
   .rw[yp h3];have:¬((Zc s i).1=46\/X0 (Zc s i).1):=fun h=>h1 ⟨h3,h⟩;simp[this];omega
   rw[yQ h3];simp;omega
def iW(s:List UInt8):Int:=if runM Vh s 0=0\/runM Vh s 0≠s.length then 60 else 0
def ud(s:List UInt8)(i:Nat):Option (List Int):=
 if h:i<s.length then if h0:(Zc s i).2≠0 then(ud s (i+(Zc s i).2.toNat)).map ((Zc s i).1:: ·)else none else some []
termination_by s.length-i
decreasing_by have:=YY s i;omega
def XZ:List Int->Bool
 | []=>true
 | [r]=>decide (X0 r)
 |r::q::l=>decide (X0 r\/r=46)&&XZ (q::l)
theorem Z8e(s:List UInt8)(i:Nat)(hi:i<=s.length):mU s i=(match ud s i with|some l=>XZ l|none=>false):=by
 induction i using ud.induct s with
 |case1 i h h0 ih=>
  have hn:=YY s i;rw[mU,ud,yp h,yp h0,yp h0,ih (by omega)];by_cases h1:i+(Zc s i).2.toNat=s.length
  .rw[h1];have:ud s s.length=some []:=by rw[ud,yQ (by omega)]
   rw[this];simp only[Option.map_some,XZ,zF];by_cases h2:(Zc s i).1=46
   rw[h2];have:=Zc6;simp[this];simp[h2]
  .cases hc:ud s (i+(Zc s i).2.toNat)with
   |none=>simp
   |some l=>
    cases l with
    |nil=>
     exfalso;rw[ud,yp (by omega)]at hc;split at hc
     cases hq:ud s (i+(Zc s i).2.toNat+(Zc s ((i+(Zc s i).2.toNat:Nat):Int)).2.toNat)<;>rw[hq]at hc<;>simp at hc
     cases hc
    |cons q l=>
     simp only[Option.map_some,XZ,h1,ne_eq,xg,implies_true,decide_true,zF];congr 1;simp only[vv];exact Or.comm
 |case2 i h h0=>
  rw[mU,ud,yQ h0,yp h,yQ h0];simp;omega
 |case3 i h=>
  rw[mU,ud,yQ (by rw[Cy (by omega)];simp),yQ h];simp[XZ];omega
def FW(s:List UInt8):Int:=match ud s 0 with
 |some (r::l)=>if Vh r/\XZ l=true then 0 else 60
 |_=>60
theorem Zgf(s:List UInt8):iW s=FW s:=by
 unfold iW FW runM;have hn:=YY s 0;by_cases h:(0:Nat)<s.length
 .rw[ud,yp h];by_cases h0:(Zc s 0).2≠0
  .have e:Zc s ((0:Nat):Int)=Zc s 0:=rfl;rw[yp (by rw[e];exact h0),e];have hr:=Z8e s (0+(Zc s 0).2.toNat) (by omega);have hf:=Zc7 s (0+(Zc s 0).2.toNat) (0+(Zc s 0).2.toNat) (zo _) (by omega);have hg:=Zek s (0+(Zc s 0).2.toNat) (0+(Zc s 0).2.toNat) (zo _);rw[show(0:Int).toNat=0 from rfl];generalize qG s (0+(Zc s 0).2.toNat) (0+(Zc s 0).2.toNat)=g at*;by_cases hl:Vh (Zc s 0).1
   .rw[z7 (show ¬((Zc s 0).2=0\/¬Vh (Zc s 0).1)by simp[h0,hl])];by_cases h1:0+(Zc s 0).2.toNat=s.length
    .rw[zf h1]at hf;have:ud s (0+(Zc s 0).2.toNat)=some []:=by rw[ud,yQ (by omega)]
     rw[this];simp only[Option.map_some,XZ,hl,and_self,yJ];rw[z7];have:=hf.2 h1;omega
    .rw[z7 h1,hr]at hf;cases hc:ud s (0+(Zc s 0).2.toNat)with
     |none=>
      rw[hc]at hf;simp only[Option.map_none];rw[zf];simp at hf;omega
     |some l=>
      rw[hc]at hf;simp only[Option.map_some,hl,xI]at hf⊢;by_cases hs:XZ l=true
      .rw[zf hs,z7];have:=hf.2 hs;omega
      .rw[z7 hs,zf];have:¬g=s.length:=fun h=>hs (hf.1 h);omega
   .rw[zf (show((Zc s 0).2=0\/¬Vh (Zc s 0).1)from .inr hl),zf (.inl rfl)];cases hc:ud s (0+(Zc s 0).2.toNat)with
    |none=>rfl
    |some l=>simp[hl]
  .rw[yQ (show ¬(Zc s ((0:Nat):Int)).2≠0 from h0)];simp only[ne_eq,Decidable.not_not]at h0;rw[zf (show((Zc s 0).2=0\/¬Vh (Zc s 0).1)from .inl h0),zf (.inl rfl)]
 .rw[ud,yQ h];have h0:(Zc s 0).2=0:=Cy (i:=0) (by omega);rw[zf (show((Zc s 0).2=0\/¬Vh (Zc s 0).1)from .inl h0),zf (.inl rfl)]
def qq(p:Int->Bool)(s:List UInt8)(i:Nat):Bool:=!gp (fun c=>!p c) s i
theorem Wv{p:Int->Bool}{s:List UInt8}{i:Nat}(h:s.length<=i):qq p s i=true:=by unfold qq;rw[Cr h];rfl
theorem JJ{p:Int->Bool}{s:List UInt8}{i:Nat}(h:i<s.length):qq p s i=(p (Z1 s i)&&qq p s (i+1)):=by
 unfold qq;rw[KJ h];simp
def Vi(c:Int):Bool:=decide (XY c)
def XJ(c:Int):Bool:=decide (W3 c)
def JT(pure:Bool)(c:Int):Bool:=Vi c||(!pure&&XJ c)
def ZH(s:List UInt8)(least most:Int)(pure:Bool):Bool:=qq (JT pure) s 0&&decide (least<=s.length/\(s.length:Int)<=most)
theorem Z8f{c:Int}(h:128<=c):Vi c=false:=y5 (by unfold XY;omega)
theorem Z9w{c:Int}(h:128<=c):XJ c=false:=y5 (by unfold W3;omega)
theorem MU{pure:Bool}{c:Int}(h:128<=c):JT pure c=false:=by unfold JT;rw[Z8f h,Z9w h];simp
def Y2(s:List UInt8):Bool:=s==[120]||s==[88]
def Jn(s:List UInt8):Bool:=ZH s 5 8 false||ZH s 4 4 false&&XJ (Z1 s 0)
def Xf(s:List UInt8):Bool:=ZH s 2 2 true||decide (s.length=3)&&XJ (Z1 s 0)&&XJ (Z1 s 1)&&XJ (Z1 s 2)
def gq(c:UInt8):UInt8:=if 65<=c.toNat/\c.toNat<=90 then UInt8.ofNat (c.toNat+32)else c
def Z7(s:List UInt8):List UInt8:=s.map gq
theorem MV(p:Int->Bool)(c:UInt8):qq p [c] 0=p (bn c):=by
 rw[JJ (by simp),Wv (by simp),zF];rfl
def qU(s:List UInt8)(i:Nat):List UInt8:=(s.map gq).take i++s.drop i
theorem MW(s:List UInt8)(i:Nat):(qU s i).length=s.length:=by unfold qU;simp;omega
theorem MX(s:List UInt8):qU s 0=s:=by simp[qU]
theorem MY{s:List UInt8}{i:Nat}(h:s.length<=i):qU s i=Z7 s:=by unfold qU Z7;rw[zg (by simpa using h),zN h,zP]
theorem Zgg{s:List UInt8}{i:Nat}(h:i<s.length):(qU s i)[i]?=some s[i]:=by
 unfold qU;rw[zw (by simp;omega)];simp;rw[show min i s.length=i by omega];simp[h]
theorem Zgh{s:List UInt8}{i:Nat}(h:i<s.length):(qU s i).set i (gq s[i])=qU s (i+1):=by
 unfold qU;rw[vn _ _ (by simp;omega),zm h];simp only[zy,zq];rw[show i-min i s.length=0 by omega,List.set_cons_zero,zH (by simpa using h),yg,zR]
 rfl
theorem MZ{s:List UInt8}{i:Nat}(h:i<s.length)(hc:gq s[i]=s[i]):qU s i=qU s (i+1):=by
 unfold qU;rw[zm h,zH (by simpa using h),yg,hc,zR]
 rfl
theorem Cz{s:List UInt8}{i:Nat}(h:i<s.length):((qU s i).map Sx.bytesRow)[i]?=some (Sx.bytesRow s[i]):=by
 rw[z6,Zgg h];rfl
theorem L0{s:List UInt8}{i:Nat}(h:i<s.length):((qU s i).map Sx.bytesRow).set i (Sx.bytesRow (gq s[i]))=(qU s (i+1)).map Sx.bytesRow:=by
 rw[<-vj,Zgh h]
theorem L2{c:UInt8}(h:65<=(c.toNat:Int)/\(c.toNat:Int)<=90):[SV.int .u8 (IntKind.u8.wrap ((c.toNat:Int)+32))]=Sx.bytesRow (gq c):=by
 unfold Sx.bytesRow gq;rw[zf (by omega),MM (by omega) (by omega),xA (by show c.toNat+32<256;omega)];simp
theorem CA{c:UInt8}(h:¬(65<=(c.toNat:Int)/\(c.toNat:Int)<=90)):gq c=c:=by unfold gq;rw[z7 (by omega)]
end Go.Our
