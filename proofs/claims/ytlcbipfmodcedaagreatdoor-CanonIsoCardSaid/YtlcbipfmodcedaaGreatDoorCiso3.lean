/- Part 3: SxOpsJ, SxSound, SxSoundG, SxSpec, SxCall, SxUse, SxBack, SxAuto, Utf, TmM, SxAuto2, Utf2, Rune, IriM, NamesM, PartM. Conditions: as each part says. -/
import Derived.Tactics
import Derived.IntWalk
import Derived.Lib.Bytealg
import Derived.Test.YtlcbipfmodcedaaGreatDoorCiso1
import Derived.Test.YtlcbipfmodcedaaGreatDoorCiso2
set_option linter.unusedVariables false
set_option linter.unusedSimpArgs false
namespace Go.Sx
open Go
section
variable {M:Mx}{K:Env}{w:World}{O:u0}{nx:Nat}{ρ:Operand->Value}{lk:Operand->Option SV}{v:SV}{O':u0}{vZ:Nat}{dst:Option Tmp}{ty:TypeId}{pos:String}{af:Array Edge}{gd:Option (Nat×Bool)}
theorem ZkU(A:At M K w O nx ρ lk)(args:Array Operand)(ts:Array TypeId)(hr:(wj M.C lk O nx (.call ⟨.builtin .min,args,ts⟩)).ok O nx v O' vZ):Y9 M K w ⟨dst, .call ⟨.builtin .min,args,ts⟩,ty,pos,af,gd⟩ ρ v O' vZ:=by
 simp only[wj,JV,QZ]at hr;split at hr
 case h_2=>exact hr.elim
 rename_i x y ha;obtain rfl:args= #[x,y]:=by apply yC;simpa using ha
 split at hr
 case h_2=>exact hr.elim
 rename_i k a hx;split at hr
 case h_2=>exact hr.elim
 rename_i k' b hy;have h1:=Jz (A.L _ _ hx);have h2:=Jz (A.L _ _ hy);exact A.val hr ⟨.int k (if b<a then b else a), .inl (by simp[execOp,resolve,invoke,builtin,h1,h2,Builtin.min_,Builtin.min2]),rfl⟩
theorem ZkV(A:At M K w O nx ρ lk)(args:Array Operand)(ts:Array TypeId)(hr:(wj M.C lk O nx (.call ⟨.builtin .max,args,ts⟩)).ok O nx v O' vZ):Y9 M K w ⟨dst, .call ⟨.builtin .max,args,ts⟩,ty,pos,af,gd⟩ ρ v O' vZ:=by
 simp only[wj,JV,K0]at hr;split at hr
 case h_2=>exact hr.elim
 rename_i x y ha;obtain rfl:args= #[x,y]:=by apply yC;simpa using ha
 split at hr
 case h_2=>exact hr.elim
 rename_i k a hx;split at hr
 case h_2=>exact hr.elim
 rename_i k' b hy;have h1:=Jz (A.L _ _ hx);have h2:=Jz (A.L _ _ hy);exact A.val hr ⟨.int k (if a<b then b else a), .inl (by simp[execOp,resolve,invoke,builtin,h1,h2,Builtin.max_,Builtin.max2]),rfl⟩
theorem ZhZ(A:At M K w O nx ρ lk)(t:TypeId)(x:Operand)(hr:(wj M.C lk O nx (.range t x)).ok O nx v O' vZ):Y9 M K w ⟨dst, .range t x,ty,pos,af,gd⟩ ρ v O' vZ:=by
 simp only[wj,Ol]at hr;split at hr
 case h_2=>exact hr.elim
 rename_i hs;obtain⟨d,hd,hm⟩:=A.T.qY t (by rw[hs];simp);rw[hs]at hm;simp only[qV]at hm;subst hm;split at hr
 case h_2=>exact hr.elim
 rename_i s hx;obtain⟨rfl,rfl,rfl⟩:=hr;have uu:=r7 (A.L _ _ hx);refine⟨.pointer (some ⟨w.heap.size,0,none⟩),YU w (.stringIter ⟨s.toArray⟩ 0),K++ [some ⟨w.heap.size,0,0⟩], .inl ?_,zD _ _,?_,?_,fun _ h=>absurd h (by simp)⟩;simp[execOp,uu,Instr.range,Z5 hd,YU]
 .refine A.H.alloc (w':=YU w (.stringIter ⟨s.toArray⟩ 0)) rfl rfl rfl rfl 0 0 ?_;simp only[vV];exact⟨_,ZS A.H.len _,rfl,Yo (w:=w) (w':=YU w (.stringIter ⟨s.toArray⟩ 0)) rfl⟩
 simp only[Den];exact⟨_,ZS A.H.len _,by simp⟩
theorem ZjF(A:At M K w O nx ρ lk)(x:Operand)(b:Bool)(hr:(wj M.C lk O nx (.next x b)).ok O nx v O' vZ):Y9 M K w ⟨dst, .next x b,ty,pos,af,gd⟩ ρ v O' vZ:=by
 simp only[wj,Om]at hr;split at hr
 case h_2=>exact hr.elim
 split at hr
 case h_2=>exact hr.elim
 rename_i i r es c hx;split at hr
 case h_2=>exact hr.elim
 rename_i s pos' hh;split at hr
 case h_2=>exact hr.elim
 rename_i hz;have hz:=Zq hz;have uu:=A.L _ _ hx;simp only[Den,Env.get]at uu;obtain⟨en,hb,uu⟩:=uu;obtain⟨uc,_⟩:=A.H.own.1 i _ hh;simp only[vV,Env.get]at uc;obtain⟨eP,h1,h2,h3⟩:=uc;rw[hb]at h1;injection h1 with h1;injection h1 with h1;subst h1
 rw[h2,hz]at uu;simp only[zw]at uu;have hlt:en.g<w.heap.size:=(zC.1 h3).1;have kJ:(getObj en.g).run M.P w= .ok (.stringIter ⟨s.toArray⟩ pos') w:=by simp[getObj,Sem.run,h3]
 simp only[uz.ok,yN]at hr;split at hr
 .rename_i hp;obtain⟨rfl,rfl,rfl⟩:=hr;have qo:(setObj en.g (.stringIter ⟨s.toArray⟩ (pos'+(Utf8.decode ⟨s.toArray⟩ pos').2))).run M.P w= .ok () {w with heap:=w.heap.setIfInBounds en.g (.stringIter ⟨s.toArray⟩ (pos'+(Utf8.decode ⟨s.toArray⟩ pos').2))}:=by simp[setObj,Sem.run,h3]
  refine⟨.tuple #[.bool true, .int .i64 (pos':Int), .int .i32 ((Utf8.decode ⟨s.toArray⟩ pos').1:Int)],{w with heap:=w.heap.setIfInBounds en.g (.stringIter ⟨s.toArray⟩ (pos'+(Utf8.decode ⟨s.toArray⟩ pos').2))},K, .inl ?_,zx,?_,?_,fun h=>by cases h⟩
  .simp[execOp,uu,Instr.next,kJ,Va,hp,qo,goInt]
  .refine A.H.jK hh hb (fun k hk=>?_) (by simp) rfl rfl rfl ?_;simp[yT,yO hk]
   .simp only[vV,Env.get];exact⟨en,hb,h2,by simp[hlt]⟩
  .simp only[Den,vX];exact⟨_,rfl,_,_,rfl,rfl,_,_,rfl,rfl,_,_,rfl,rfl,rfl⟩
 .rename_i hp;obtain⟨rfl,rfl,rfl⟩:=hr;refine A.same (u:= .tuple #[.bool false]) (.inl ?_) ?_ rfl rfl
  .simp[execOp,uu,Instr.next,kJ,Va,hp]
  simp only[Den,vX];exact⟨_,rfl,_,_,rfl,rfl,rfl⟩
theorem PO(l:List UInt8):(l.map bytesRow).map QS=l:=by
 rw[yq];conv=>rhs;rw[<-List.map_id l]
 apply zZ;intro b _;simp[bytesRow,QS]
theorem PR{K:Env}:∀{l:List UInt8} {news:List Value},uk K 1 (l.map bytesRow) news->news=l.map fun c=> .int .u8 (c.toNat:Int)
 | [],news,h=>by simpa[uk]using h
 |c::l,news,h=>by
  simp only[zL,uk]at h;obtain⟨us,ws,rfl,_,h1,h2⟩:=h;simp only[bytesRow,vX,Den]at h1;obtain⟨u,us',rfl,rfl,rfl⟩:=h1;rw[PR h2];rfl
theorem ZcC(A:At M K w O nx ρ lk)(a b:TypeId)(x:Operand)(hr:(wj M.C lk O nx (.convert a b x)).ok O nx v O' vZ):Y9 M K w ⟨dst, .convert a b x,ty,pos,af,gd⟩ ρ v O' vZ:=by
 simp only[wj,O9]at hr;split at hr
 exact hr.elim;rename_i hok;have FJ:M.C.T.sh a≠ .other:=by intro h;simp[kf,h]at hok
 obtain⟨da,hda,hma⟩:=A.T.qY a FJ
 have bV:∀{t e:TypeId},QW M.C.T t=some e->M.P.underlying t=some (.slice e)/\M.P.underlying e=some (.int .u8):=by
  intro t e h;unfold QW at h;split at h
  case h_2=>cases h
  rename_i q hq;split at h
  case h_2=>cases h
  rename_i r8;injection h with h;subst h;obtain⟨d,hd,hm⟩:=A.T.qY t (by rw[hq];simp);rw[hq]at hm;simp only[qV]at hm;subst hm;obtain⟨d,hd',hm⟩:=A.T.qY q (by rw[r8];simp);rw[r8]at hm;simp only[qV]at hm;subst hm;exact⟨hd,hd'⟩
 split at hr
 .rename_i k n hx;have uu:=Jz (A.L _ _ hx);split at hr
  case h_3=>exact hr.elim
  .rename_i k' hs;obtain⟨d,hd,hm⟩:=A.T.qY b (by rw[hs];simp);rw[hs]at hm;simp only[qV]at hm;subst hm;refine A.val hr ⟨.int k' (k'.wrap n), .inl ?_,rfl⟩
   have:(convert a b (.int k n)).run M.P w= .ok (.int k' (k'.wrap n)) w:=by
    simp only[convert,Sem.run_bind,Z5 hda,Z5 hd,Result.andThen_ok];cases da<;>rfl
   simp[execOp,uu,this]
  .rename_i hs;obtain⟨d,hd,hm⟩:=A.T.qY b (by rw[hs];simp);rw[hs]at hm;simp only[qV]at hm;subst hm;refine A.val hr ⟨.string (Utf8.encode n), .inl ?_,rfl⟩
   have:(convert a b (.int k n)).run M.P w= .ok (.string (Utf8.encode n)) w:=by
    simp only[convert,Sem.run_bind,Z5 hda,Z5 hd,Result.andThen_ok];cases da<;>rfl
   simp[execOp,uu,this]
 .rename_i s hx;have uu:=r7 (A.L _ _ hx);split at hr
  .rename_i hs;obtain⟨d,hd,hm⟩:=A.T.qY b (by rw[hs];simp);rw[hs]at hm;simp only[qV]at hm;subst hm;refine A.val hr ⟨.string ⟨s.toArray⟩, .inl ?_,rfl⟩
   have:(convert a b (.string ⟨s.toArray⟩)).run M.P w= .ok (.string ⟨s.toArray⟩) w:=by
    simp only[convert,Sem.run_bind,Z5 hda,Z5 hd,Result.andThen_ok];cases da<;>rfl
   simp[execOp,uu,this]
  .split at hr
   case h_2=>exact hr.elim
   rename_i e he;obtain⟨hd,hd'⟩:=bV he;split at hr
   case h_2=>exact hr.elim
   rename_i hsz;have hsz:=Zq hsz;split at hr
   case h_2=>exact hr.elim
   rename_i hsrc;obtain⟨da',DJ,sS⟩:=A.T.qY a (by rw[hsrc];simp);rw[hsrc]at sS;simp only[qV]at sS;subst sS;obtain⟨hlen,rfl,rfl,rfl⟩:=hr;have hrun:=run_bytes_of_string (P:=M.P) w a b e ⟨s.toArray⟩ DJ hd hd';rw[Va]at hrun;have hge:=grownCap_ge w s.length 0 e;have hbs:(Go.bytesRow ⟨s.toArray⟩ (grownCap w s.length 0 e)).size=grownCap w s.length 0 e:=by simp[Go.bytesRow,Va];omega
   refine⟨_,w.drew.alloc (.cells (Go.bytesRow ⟨s.toArray⟩ (grownCap w s.length 0 e)) e ((Go.bytesRow ⟨s.toArray⟩ (grownCap w s.length 0 e)).size,(Go.bytesRow ⟨s.toArray⟩ (grownCap w s.length 0 e)).size+1)),K++ [some ⟨w.heap.size,0,grownCap w s.length 0 e⟩],
    .inl (by simp only[execOp,uu,Sem.run_bind,hrun,Result.andThen_ok,Sem.run_pure]),zD _ _,?_,Ug A.H.len hge,fun _ h=>absurd h (by simp)⟩
   refine vU.alloc (w':=w.drew.alloc (.cells (Go.bytesRow ⟨s.toArray⟩ (grownCap w s.length 0 e)) e ((Go.bytesRow ⟨s.toArray⟩ (grownCap w s.length 0 e)).size,(Go.bytesRow ⟨s.toArray⟩ (grownCap w s.length 0 e)).size+1))) A.H rfl rfl rfl rfl 0 _ ?_;simp only[vV];right
   refine⟨_,Go.bytesRow ⟨s.toArray⟩ (grownCap w s.length 0 e),e,((Go.bytesRow ⟨s.toArray⟩ (grownCap w s.length 0 e)).size,(Go.bytesRow ⟨s.toArray⟩ (grownCap w s.length 0 e)).size+1),ZS A.H.len _,Yo (w:=w) (o:= .cells (Go.bytesRow ⟨s.toArray⟩ (grownCap w s.length 0 e)) e ((Go.bytesRow ⟨s.toArray⟩ (grownCap w s.length 0 e)).size,(Go.bytesRow ⟨s.toArray⟩ (grownCap w s.length 0 e)).size+1)) rfl,fun _=>⟨?_,by rw[hbs,xI],by simpa using hge,rfl⟩,?_⟩;intro o ho h;omega
   .intro k row hk;rw[z7]at hk;cases hq:s[k]? with
    |none=>rw[hq]at hk;cases hk
    |some c=>
     rw[hq]at hk;injection hk with hk;subst hk;refine⟨rfl,fun j sv hj=>?_⟩;cases j with
     |succ j=>simp[bytesRow]at hj
     |zero=>
      simp[bytesRow]at hj;subst hj;have cL:=(zg.1 hq).1;refine⟨.int .u8 (c.toNat:Int),?_,rfl,rfl⟩;simp only[Go.bytesRow,zw,xI,Nat.add_zero];rw[ya (by simpa using cL)];simp[hq]
 .rename_i bb r es len lim hx;split at hr
  case h_2=>exact hr.elim
  rename_i hs;obtain⟨d,hd,hm⟩:=A.T.qY b (by rw[hs];simp);rw[hs]at hm;simp only[qV]at hm;subst hm;split at hr
  case h_2=>exact hr.elim
  rename_i e he;obtain⟨kU,hd2⟩:=bV he;split at hr
  case h_2=>exact hr.elim
  rename_i xs m hrows;obtain⟨⟨hl,l,hxl⟩,hr⟩:=hr;have aL:=A.L _ _ hx;obtain⟨news,N⟩:=X9 A aL hrows hl
  have hm:m=len:=by
   unfold mb at hrows;simp only at hrows;split at hrows
   case h_2=>cases hrows
   split at hrows
   case h_2=>cases hrows
   split at hrows
   case h_2=>cases hrows
   simp only[zh,yF]at hrows;exact hrows.2.symm
  subst hm;subst hxl;rw[PO]at hr;refine A.val hr ⟨.string ⟨l.toArray⟩, .inl ?_,rfl⟩;have hnews:=PR N.den;have hf:=N.first w rfl;simp only[zj]at hl;simp only[Den]at aL;rcases aL with⟨_,uu,h0⟩|⟨en,o,_,uu,_⟩
  .subst h0;have:l=[]:=zO.1 hl;subst this;simp[execOp,uu,convert,Z5 kU,Z5 hd,Z5 hd2,Conv.bytesToString]
   rfl
  .rw[uu]at hf;simp only[Builtin.firstCells,xI]at hf
   have Kk:(convert a b (.slice (some ⟨en.g,o,none⟩) m (lim.getD en.cap-r))).run M.P w= .ok (.string ⟨l.toArray⟩) w:=by
    rw[run_convert_bytes_string w a b e _ m _ kU hd2 hd]
    have hf':(loadCells ⟨en.g,o,none⟩ m).run M.P w= .ok ((l.map (fun c=>(c.toNat:Int))).map (Value.int .u8)).toArray w:=by
     rw[hf,hnews];simp
    rw[run_bytesToString w _ m _ _ hf',foldl_push_byteCells];simp
   simp[execOp,uu,Kk]
 .rename_i hx;obtain⟨uu,_⟩:ρ x= .slice none 0 0/\True:=⟨And.left (A.L _ _ hx),trivial⟩;split at hr
  case h_2=>exact hr.elim
  rename_i hs;obtain⟨d,hd,hm⟩:=A.T.qY b (by rw[hs];simp);rw[hs]at hm;simp only[qV]at hm;subst hm;split at hr
  case h_2=>exact hr.elim
  rename_i e he;obtain⟨kU,hd2⟩:=bV he;refine A.val hr ⟨.string ⟨[].toArray⟩, .inl ?_,rfl⟩;simp[execOp,uu,convert,Z5 kU,Z5 hd,Z5 hd2,Conv.bytesToString]
  rfl
 exact hr.elim
theorem ZjG(A:At M K w O nx ρ lk)(args:Array Operand)(ts:Array TypeId)(hr:(wj M.C lk O nx (.call ⟨.builtin .copy,args,ts⟩)).ok O nx v O' vZ):Y9 M K w ⟨dst, .call ⟨.builtin .copy,args,ts⟩,ty,pos,af,gd⟩ ρ v O' vZ:=by
 simp only[wj,JV,Oz]at hr;split at hr
 case h_2=>exact hr.elim
 rename_i dd x ha;obtain rfl:args= #[dd,x]:=by apply yC;simpa using ha
 split at hr
 case h_2=>exact hr.elim
 rename_i t u htu;obtain rfl:ts= #[t,u]:=by apply yC;simpa using htu
 split at hr
 case h_2=>exact hr.elim
 rename_i e hst;obtain⟨d,hd,hm⟩:=A.T.qY t (by rw[hst];simp);rw[hst]at hm;simp only[qV]at hm;subst hm;split at hr
 exact hr.elim;rename_i hok;have hsh:M.C.T.sh e≠ .other:=by intro h;simp[kf,h]at hok
 obtain⟨ie,hie,uV,_⟩:=A.T.info e hsh;split at hr
 case h_2=>exact hr.elim
 rename_i i r es n lim pE;have fu:=A.L _ _ pE;split at hr
 exact hr.elim;rename_i PF hx;have aL:=A.L _ _ hx;split at hr
 exact hr.elim;rename_i xs m hrows;split at hr
 case h_2=>exact hr.elim
 rename_i es' rs hh;split at hr
 case h_2=>exact hr.elim
 rename_i h1;have h1:=Zq h1;subst h1;split at hr
 case h_2=>exact hr.elim
 rename_i h2;have h2:=Zq h2;subst h2;obtain⟨⟨q1,q2,q3⟩,rfl,rfl,rfl⟩:=hr;obtain⟨news,N⟩:=X9 A aL hrows q1;obtain⟨uc,_⟩:=A.H.own.1 i _ hh;simp only[vV,Env.get]at uc;have hmin:Nat.min m n=m:=xN q2;have kU:=N.first w rfl
 have fin:∀{w':World},(Builtin.copy_ #[t,u] ty #[ρ dd,ρ x]).run M.P w= .ok (.int .i64 m) w'->r6 M.P ⟨dst, .call ⟨.builtin .copy, #[dd,x], #[t,u]⟩,ty,pos,af,gd⟩ ρ w (.int .i64 m) w':=by
  intro w' h;exact .inl (by simp[execOp,resolve,invoke,builtin,h])
 simp only[Den,Env.get]at fu;rcases fu with⟨p1,dP,p3⟩|⟨en,o,p1,dP,p3,p4,p5⟩
 .rcases uc with⟨p6,rfl⟩|⟨eP,arr,T,fz,p6,_⟩
  case inr=>rw[p1]at p6;cases p6
  subst p3;have hm0:m=0:=by omega
  subst hm0;have hx0:xs=[]:=zO.1 q1;subst hx0;refine⟨_,w,K,fin ?_,zx,?_,rfl,fun h=>by cases h⟩;simp[dP,Builtin.copy_,Z5 hd,N.lenOf,Zr hie,uV,kU,goInt]
  .refine{pre:=A.H.pre,len:=A.H.len,fr:=A.H.fr,wH:=A.H.wH,own:=⟨fun j g hj=>?_,fun j k g g' m hj hk hne f f'=>?_⟩}
   .rw[Y5 i _ O j (by rw[hh];rfl)]at hj;split at hj
    .rename_i e;subst e;injection hj with hj;subst hj
     exact⟨Or.inl ⟨p1,by simp⟩,fun k f=>(u5.none (b:= .loc j) p1 f).elim⟩
    exact A.H.own.1 j g hj
   .have aux:∀(j:Nat) (g:Hp) (m:Nat),u5 K w (.loc j) g m->u6 j (uO i (.rows (M.C.T.size e) (List.take r []++ []++List.drop (r+0) [])) O)=some g->u6 j O=some g:=by
     intro j g m f hj;rw[Y5 i _ O j (by rw[hh];rfl)]at hj;split at hj
     rename_i e;subst e;exact(u5.none (b:= .loc j) p1 f).elim;exact hj
    exact A.H.own.2 j k g g' m (aux j g m f hj) (aux k g' m f' hk) hne f f'
 .rcases uc with⟨p6,_⟩|⟨eP,arr,T,fz,p6,p7,p8,p9⟩
  rw[p1]at p6;cases p6;rw[p1]at p6;injection p6 with p6;injection p6 with p6;subst p6
  obtain⟨aJ,aK,Ke,gK⟩:=p8 trivial;rw[gK]at p9;obtain⟨r1,r2⟩:=WY aK (r:=r) (xs:=xs) (by omega) (by omega) p9 N.den N.one;by_cases hm0:m=0
  .subst hm0;have hx0:xs=[]:=zO.1 q1;have hn0:news=[]:=by apply zO.1;rw[N.len];omega
   subst hx0 hn0;refine⟨_,w,K,fin ?_,zx,?_,rfl,fun h=>by cases h⟩;simp[dP,Builtin.copy_,Z5 hd,N.lenOf,Zr hie,uV,kU,goInt,storeCells]
   .refine A.H.jK hh p1 (fun k _=>rfl) rfl rfl rfl rfl ?_;simp only[vV,Env.get];right
    exact⟨en,arr,T,fz,p1,p7,fun _=>⟨aJ,aK,by simpa using Ke,gK⟩,by rw[gK];simpa using p9⟩
  .have ho:=p5 (.inl (by omega));rw[gK,zw]at ho;subst ho;have hst:=YR (P:=M.P) en.g (r*M.C.T.size e) T fz news 0 arr w p7 (by simpa using r1) aJ N.one;simp only[Nat.add_zero]at hst
   have jX:(arr.toList.take (r*M.C.T.size e)++news++arr.toList.drop (r*M.C.T.size e+news.length)).toArray.size=arr.size:=by
    simp only[yc,ze,zA,zW,Array.length_toList];omega
   refine⟨_,w.setRow en.g (arr.toList.take (r*M.C.T.size e)++news++arr.toList.drop (r*M.C.T.size e+news.length)).toArray,K,fin ?_,zx,A.H.jK hh p1 (fun k hk=>setRow_other w en.g k _ hk) (setRow_size _ _ _) rfl rfl rfl ?_,rfl,fun h=>by cases h⟩;simp[dP,Builtin.copy_,Z5 hd,N.lenOf,Zr hie,uV,hmin,kU,hst,goInt]
   .simp only[vV,Env.get];right
    refine⟨en,_,T,fz,p1,setRow_heap w en.g arr _ T fz p7,fun _=>⟨by rw[jX];exact aJ,by rw[jX];exact aK,?_,gK⟩,by rw[gK,<-q1];exact r2⟩;simp only[ze,zA,zW];omega
theorem Zi0(A:At M K w O nx ρ lk)(args:Array Operand)(ts:Array TypeId)(hr:(wj M.C lk O nx (.call ⟨.builtin .clear,args,ts⟩)).ok O nx v O' vZ):Y9 M K w ⟨dst, .call ⟨.builtin .clear,args,ts⟩,ty,pos,af,gd⟩ ρ v O' vZ:=by
 simp only[wj,JV,OA]at hr;split at hr
 case h_2=>exact hr.elim
 rename_i dd ha;obtain rfl:args= #[dd]:=by apply yC;simpa using ha
 split at hr
 case h_2=>exact hr.elim
 rename_i t htu;obtain rfl:ts= #[t]:=by apply yC;simpa using htu
 split at hr
 case h_2=>exact hr.elim
 rename_i e hst;obtain⟨d,hd,hm⟩:=A.T.qY t (by rw[hst];simp);rw[hst]at hm;simp only[qV]at hm;subst hm;split at hr
 exact hr.elim;rename_i c cs hz;have hsh:M.C.T.sh e≠ .other:=A.T.r5 e (by rw[hz];simp);obtain⟨ie,z,h1,h2,h3,h4,h5,_⟩:=A.T.zero e hsh (by rw[hz];simp);rw[hz]at h3 h5;have h3:=vX.mono (η':=K) xq h3;have hzl:z.cells.toList.length=M.C.T.size e:=by have:=ZL h3;rw[h5]at this;exact this
 split at hr
 case h_2=>exact hr.elim
 rename_i i r es n lim pE;have fu:=A.L _ _ pE;split at hr
 case h_2=>exact hr.elim
 rename_i es' rs hh;split at hr
 case h_2=>exact hr.elim
 rename_i g1;have g1:=Zq g1;subst g1;split at hr
 case h_2=>exact hr.elim
 rename_i g2;have g2:=Zq g2;subst g2;obtain⟨q3,rfl,rfl,rfl⟩:=hr;obtain⟨uc,_⟩:=A.H.own.1 i _ hh;simp only[vV,Env.get]at uc
 have fin:∀{w':World},(Builtin.clear_ #[t] ty #[ρ dd]).run M.P w= .ok (.tuple #[]) w'->r6 M.P ⟨dst, .call ⟨.builtin .clear, #[dd], #[t]⟩,ty,pos,af,gd⟩ ρ w (.tuple #[]) w':=by
  intro w' h;exact .inl (by simp[execOp,resolve,invoke,builtin,h])
 have fR:∀K,Den K (.uI []) (.tuple #[]):=fun K=>by simp only[Den,vX];exact⟨[],rfl,rfl⟩
 simp only[Den,Env.get]at fu;rcases fu with⟨p1,dP,p3⟩|⟨en,o,p1,dP,p3,p4,p5⟩
 .rcases uc with⟨p6,rfl⟩|⟨eP,arr,T,fz,p6,_⟩
  case inr=>rw[p1]at p6;cases p6
  subst p3;refine⟨_,w,K,fin ?_,zx,?_,fR _,fun h=>by cases h⟩;simp[dP,Builtin.clear_,Z5 hd]
  .refine{pre:=A.H.pre,len:=A.H.len,fr:=A.H.fr,wH:=A.H.wH,own:=⟨fun j g hj=>?_,fun j k g g' m hj hk hne f f'=>?_⟩}
   .rw[Y5 i _ O j (by rw[hh];rfl)]at hj;split at hj
    .rename_i e;subst e;injection hj with hj;subst hj
     exact⟨Or.inl ⟨p1,by simp⟩,fun k f=>(u5.none (b:= .loc j) p1 f).elim⟩
    exact A.H.own.1 j g hj
   .have aux:∀(j:Nat) (g:Hp) (m:Nat),u5 K w (.loc j) g m->u6 j (uO i (.rows (M.C.T.size e) (List.take r []++List.replicate 0 (c::cs)++List.drop (r+0) [])) O)=some g->u6 j O=some g:=by
     intro j g m f hj;rw[Y5 i _ O j (by rw[hh];rfl)]at hj;split at hj
     rename_i e;subst e;exact(u5.none (b:= .loc j) p1 f).elim;exact hj
    exact A.H.own.2 j k g g' m (aux j g m f hj) (aux k g' m f' hk) hne f f'
 .rcases uc with⟨p6,_⟩|⟨eP,arr,T,fz,p6,p7,p8,p9⟩
  rw[p1]at p6;cases p6;rw[p1]at p6;injection p6 with p6;injection p6 with p6;subst p6
  obtain⟨aJ,aK,Ke,gK⟩:=p8 trivial;rw[gK]at p9;have mg:=Dx h3 hzl n;have hone:=Di h4 n;have hxl:(List.replicate n (c::cs)).length=n:=zT;obtain⟨r1,r2⟩:=WY aK (r:=r) (xs:=List.replicate n (c::cs)) (by omega) (by omega) p9 mg hone;by_cases hn0:n=0
  .subst hn0;refine⟨_,w,K,fin ?_,zx,?_,fR _,fun h=>by cases h⟩;simp[dP,Builtin.clear_,Z5 hd]
   .refine A.H.jK hh p1 (fun k _=>rfl) rfl rfl rfl rfl ?_;simp only[vV,Env.get];right
    exact⟨en,arr,T,fz,p1,p7,fun _=>⟨aJ,aK,by simpa using Ke,gK⟩,by rw[gK];simpa using p9⟩
  .have ho:=p5 (.inl (by omega));rw[gK,zw]at ho;subst ho;have hst:=YR (P:=M.P) en.g (r*M.C.T.size e) T fz (XD z.cells.toList n) 0 arr w p7 (by simpa using r1) aJ hone;simp only[Nat.add_zero]at hst
   have DA:(Builtin.zeroCells z.cells n).toList=XD z.cells.toList n:=by
    unfold Builtin.zeroCells;exact VB z.cells n _ (by simp[vw])
   have jX:(arr.toList.take (r*M.C.T.size e)++XD z.cells.toList n++arr.toList.drop (r*M.C.T.size e+(XD z.cells.toList n).length)).toArray.size=arr.size:=by
    simp only[yc,ze,zA,zW,Array.length_toList];omega
   refine⟨_,w.setRow en.g (arr.toList.take (r*M.C.T.size e)++XD z.cells.toList n++arr.toList.drop (r*M.C.T.size e+(XD z.cells.toList n).length)).toArray,K,fin ?_,zx,A.H.jK hh p1 (fun k hk=>setRow_other w en.g k _ hk) (setRow_size _ _ _) rfl rfl rfl ?_,fR _,fun h=>by cases h⟩
   .obtain⟨n,rfl⟩:∃m,n=m+1:=⟨n-1,by omega⟩;simp[dP,Builtin.clear_,Z5 hd,XH h1 h2,DA,hst]
   .simp only[vV,Env.get];right
    refine⟨en,_,T,fz,p1,setRow_heap w en.g arr _ T fz p7,fun _=>⟨by rw[jX];exact aJ,by rw[jX];exact aK,?_,gK⟩,by rw[gK];rw[hxl]at r2;exact r2⟩;simp only[ze,zA,zW,zT];omega
theorem DK(A:At M K w O nx ρ lk)(o:Oper)(hr:(wj M.C lk O nx o.op).ok O nx v O' vZ):Y9 M K w o ρ v O' vZ:=by
 obtain⟨dst,op,ty,pos,af,gd⟩:=o;cases op with
 |move x=>exact Ik A x hr
 |assign x=>exact Il A x hr
 |pick c a b=>exact Im A c a b hr
 |alloc e=>exact IL A e hr
 |box e x=>exact IP A e x hr
 |build t ps=>exact IX A t ps hr
 |buildSlice t l ps=>exact IY A t l ps hr
 |load t x=>exact ZjE A t x hr
 |store t x y=>exact ZhY A t x y hr
 |nilCheck x=>exact Iq A x hr
 |binOp op t x y u=>exact ID A op t u x y hr
 |unOp op t x=>exact Ir A op t x hr
 |convert s d x=>exact ZcC A s d x hr
 |makeInterface t x=>exact Is A t x hr
 |makeFunc f a b=>exact It A f a b hr
 |makeSlice t l c=>exact IZ A t l c hr
 |slice t x lo hi mx=>exact IE A t x lo hi mx hr
 |fieldAddr s x f=>exact Iz A s x f hr
 |field t x f=>exact Ip A t x f hr
 |indexAddr t x i=>exact Iy A t x i hr
 |index t x i=>exact Iw A t x i hr
 |makeMap t r=>exact Zcw A t r hr
 |lookup t x i ok=>exact Zfp A t x i ok hr
 |mapUpdate t m k x=>exact PK A t m k x hr
 |insert t m k x=>exact Zfq A t m k x hr
 |mapEntry t m k=>exact ZaU A t m k hr
 |entryStore t m k x=>exact Z6N A t m k x hr
 |range t x=>exact ZhZ A t x hr
 |next x b=>exact ZjF A x b hr
 |extract x i=>exact Io A x i hr
 |typeAssert x t u ok=>exact IB A x t u ok hr
 |call c=>
  obtain⟨callee,args,ts⟩:=c;cases callee with
  |builtin b=>
   cases b with
   |len=>exact IG A args ts hr
   |append=>exact Zfo A args ts hr
   |cap=>exact II A args ts hr
   |min=>exact ZkU A args ts hr
   |max=>exact ZkV A args ts hr
   |copy=>exact ZjG A args ts hr
   |clear=>exact Zi0 A args ts hr
   |_=>exact hr.elim
  |_=>exact hr.elim
 |_=>exact hr.elim
end
end Go.Sx
namespace Go.Sx
open Go
section
variable {M:Mx}{J:Env}{w:World}{O:u0}{nx:Nat}
theorem jm.mono{J η':Env}{a:Act}{fr:Fr}(h:J<+:η')(k:jm J a fr):jm η' a fr:=fun t sv ht=>(k t sv ht).mono h
theorem DL{a:Act}{d:Nat}{u:Value}(h:d<a.tmps.size):(a.put (some d) u).tmps.getD d undef=u:=by
 simp[Act.put,Array.getD,h]
theorem DM{a:Act}{d t:Nat}{u:Value}(h:t≠d):(a.put (some d) u).tmps.getD t undef=a.tmps.getD t undef:=by
 simp only[Act.put,y5];rw[yT,z6 (yO h)]
theorem DN{a:Act}{d:Option Tmp}{u:Value}:(a.put d u).tmps.size=a.tmps.size:=by
 cases d<;>simp[Act.put]
theorem put_defers{a:Act}{d:Option Tmp}{u:Value}:(a.put d u).defers=a.defers:=by
 cases d<;>simp[Act.put]
theorem jm.put{a:Act}{fr:Fr}{d:Nat}{u:Value}{v:SV}(k:jm J a fr)(hd:d<a.tmps.size)(hv:Den J v u):jm J (a.put (some d) u) ((d,v)::fr):=by
 intro t sv ht;rw[Z6]at ht;split at ht
 .rename_i e;subst e;injection ht with ht;subst ht
  rw[DL hd];exact hv
 rename_i e;rw[DM e];exact k t sv ht
theorem jm.know{a:Act}{fr:Fr}{d:Nat}{v:SV}(k:jm J a fr)(hv:Den J v (a.tmps.getD d undef)):jm J a ((d,v)::fr):=by
 intro t sv ht;rw[Z6]at ht;split at ht
 rename_i e;subst e;injection ht with ht;subst ht;exact hv
 exact k t sv ht
theorem DP{N:Nat}{d:Nat}(h:Jj N (some d)=true):d<N:=by
 simpa[Jj]using h
def DQ:SV->Bool
 | .jQ _=>false
 |_=>true
theorem qU.other{J:Env}{ds:List Deferred}{v:SV}(h:DQ v=true):qU J ds (some v)<->ds=[]:=by
 cases v<;>first|exact xY|cases h
theorem u7.know{fr:Fr}{a:Act}(K:u7 M J fr O nx a w){s:Nat}{u v:SV}(hs:u6 s fr=some u)(hu:DQ u=true)(hv:DQ v=true)(hd:Den J v (a.tmps.getD s undef)):u7 M J ((s,v)::fr) O nx a w:=by
 refine⟨K.heap,K.size,K.fN,?_,K.ro,K.frame.know hd⟩;have h:=K.defers;rw[Z6];split
 .rename_i e;rw[e,hs,qU.other hu]at h;rw[qU.other hv];exact h
 exact h
theorem PS{N d:Nat}{v:SV}{fr:Fr}(hd:Jj N (some d)=true)(hN:N<=DS):u6 DS ((d,v)::fr)=u6 DS fr:=by
 have h1:=DP hd;have h2:DS≠d:=fun e=>Nat.lt_irrefl _ (yI (e▸h1) hN);rw[Z6,z6 h2]
theorem VD{J η':Env}(hp:J<+:η')(h:∀l j,M.C.ro=some (l,j)->∃e,J[j]?=some (some e)/\e.g=l):∀l j,M.C.ro=some (l,j)->∃e,η'[j]?=some (some e)/\e.g=l:=fun l j hj=>
 let⟨e,h1,h2⟩:=h l j hj;⟨e,Env.ug (b:= .loc j) hp h1,h2⟩
theorem u7.put{fr:Fr}{a:Act}(K:u7 M J fr O nx a w){η':Env}{O':u0}{vZ:Nat}{w':World}{d:Option Tmp}{u:Value}{v:SV}(hd:Jj M.C.N d=true)(hp:J<+:η')(hH:vU M η' w' O' vZ)(hv:Den η' v u){Kp:Fr->Prop}(hk:wJ d v fr Kp):
 ∃fr',Kp fr'/\u7 M η' fr' O' vZ (a.put d u) w':=by
 cases d with
 |none=>exact⟨fr,hk,hH,by rw[DN];exact K.size,K.fN,by rw[put_defers];exact K.defers.mono hp,VD hp K.ro,K.frame.mono hp⟩
 |some d=>
  refine⟨(d,v)::fr,hk,hH,by rw[DN];exact K.size,K.fN,by rw[put_defers,PS hd K.fN];exact K.defers.mono hp,VD hp K.ro,(K.frame.mono hp).put ?_ hv⟩;rw[K.size];exact DP hd
theorem Z23{P:Program}{o:Oper}{ρ:Operand->Value}{w w':World}{u:Value}(h:r6 P o ρ w u w'):∀c,o.op≠ .defer c:=by
 intro c hc
 have key:∀(n:Next) (w':World),(∀d,n≠ .defer d)->(execOp ρ o).run P w≠ .ok n w':=by
  intro n w' hn he;simp only[execOp,hc,Sem.run_bind]at he;cases hr:(resolve ρ c o.type).run P w with
  |ok d w1=>
   rw[hr]at he;simp only[Result.andThen,Sem.run_pure]at he;injection he with he _;exact hn d he.symm
  |halt x w1=>rw[hr]at he;simp only[Result.andThen]at he;cases he
 rcases h with h|⟨h,_⟩
 exact key _ _ (fun d e=>by cases e) h;exact key _ _ (fun d e=>by cases e) h
theorem DR{ro:Option Nat}{ρ:Operand->Value}{o:Oper}{c:Call}(h:o.op= .call c):o.semAt ro ρ=execOp ρ o:=Oper.semAt_eq _ _ _ fun c' hc=>by rw[h]at hc;cases hc
theorem DT{P:Program}{o:Oper}{a:Act}{w w':World}{u:Value}{next:Act->World->Prop}{Q:Exit->Act->World->Prop}{F:Fence}(hF:∀f,F.fn f)(h:r6 P o a.eval w u w')(hn:next (a.put o.dst u) w'):o.wpIn F 0 P a w next Q:=by
 refine⟨fun f _=>hF f,?_⟩;rw[Oper.semAt_eq _ _ _ (Z23 h)];rcases h with h|⟨h,rfl⟩
 rw[h];exact hn;rw[h];exact hn
theorem WD{lk:Operand->Option SV}{ρ:Operand->Value}{xs:List Operand}{eN:List SV}(hl:∀x sv,lk x=some sv->Den J sv (ρ x))(h:qK lk xs=some eN):vX J eN (xs.map ρ):=D8 hl h
theorem PT{o:Oper}{a:Act}{c:Call}{lk:Operand->Option SV}{f:FuncId}{args:List SV}{K:SV->u0->Nat->Prop}{next:Act->World->Prop}{Q:Exit->Act->World->Prop}(ho:o.op= .call c)(H:vU M J w O nx)(hl:∀x sv,lk x=some sv->Den J sv (a.eval x))
 (hc:VA lk c=some (f,args)) (hC:CALL M f args O nx K) (hn:∀v r O' vZ η' w',J<+:η'->vU M η' w' O' vZ->Den η' r v->K r O' vZ->next (a.put o.dst v) w'):o.wpIn M.uq 0 M.P a w next Q:=by
 unfold VA at hc;split at hc
 case h_2=>cases hc
 rename_i ff bW;split at hc
 case h_2=>cases hc
 rename_i f' first cap args' hf hargs;simp only[zh,yF]at hc;obtain⟨rfl,rfl⟩:=hc;have pN:=hl _ _ hf;simp only[Den]at pN;obtain⟨us,vs,sU,h1,h2⟩:=pN;have hall:=YJ (YJ h1 (WD hl hargs)) h2
 have gx:(execOp a.eval o).run M.P w=(callFunc f' ⟨us++c.args.toList.map a.eval++vs⟩).run M.P w:=by
  have:(⟨us⟩++c.args.map a.eval++⟨vs⟩:Array Value)=⟨us++c.args.toList.map a.eval++vs⟩:=by apply yC;simp
  rw[<-this];simp[execOp,ho,resolve,bW,sU,Deferred.ofValue,invoke]
 refine⟨fun f _=>M.all f,?_⟩;rw[DR ho,gx];rcases hC.out J w _ H hall with⟨g,hg,jZ⟩|⟨v,w',hv,r,O',vZ,η',h3,h4,h5,h6⟩
 .rw[hg];refine⟨(fun h=>by cases h),?_⟩;have jZ:CallsIn M.uq (0-1) M.P g _ w _:=callsIn_wide.2 jZ;refine jZ.mono fun e w' he=>?_;obtain⟨v,rfl,r,O',vZ,η',h3,h4,h5,h6⟩:=he;exact hn v r O' vZ η' w' h3 h4 h5 h6
 .rw[hv];exact hn v r O' vZ η' w' h3 h4 h5 h6
theorem Zfr{o:Oper}{a:Act}{c:Call}{lk:Operand->Option SV}{j:Nat}{args:List SV}{K:SV->u0->Nat->Prop}{next:Act->World->Prop}{Q:Exit->Act->World->Prop}(ho:o.op= .call c)(H:vU M J w O nx)(hl:∀x sv,lk x=some sv->Den J sv (a.eval x))
 (hc:EW lk c=some (j,args)) (hC:fO M j args O nx K) (hn:∀v r O' vZ η' w',J<+:η'->vU M η' w' O' vZ->Den η' r v->K r O' vZ->next (a.put o.dst v) w'):o.wpIn M.uq 0 M.P a w next Q:=by
 unfold EW at hc;split at hc
 case h_2=>cases hc
 rename_i ff bW;split at hc
 case h_2=>cases hc
 rename_i j' args' hf hargs;simp only[zh,yF]at hc;obtain⟨rfl,rfl⟩:=hc;have pN:=hl _ _ hf;simp only[Den]at pN;obtain⟨e,he,sU⟩:=pN;have hall:=WD hl hargs;obtain⟨fn,tmps,eD,body,hy,hr⟩:=hC.out J w _ e H hall he
 have gx:(execOp a.eval o).run M.P w=(Instr.yield e.g ⟨c.args.toList.map a.eval⟩).run M.P w:=by
  have:(#[]++c.args.map a.eval:Array Value)=⟨c.args.toList.map a.eval⟩:=by apply yC;simp
  rw[<-this];simp[execOp,ho,resolve,bW,sU,Deferred.ofValue,invoke]
 refine⟨fun f _=>M.all f,?_⟩;rw[DR ho,gx,hy];refine⟨(fun h=>by cases h),?_⟩;have hr:RoundIn M.uq (0-1) M.P e.g fn tmps eD body w _:=hr;refine hr.mono fun en w' he=>?_;obtain⟨v,rfl,r,O',vZ,η',h3,h4,h5,h6⟩:=he;exact hn v r O' vZ η' w' h3 h4 h5 h6
theorem JZ(hT:ux M.P M.C.T){fr:Fr}{a:Act}(K:u7 M J fr O nx a w){o:Oper}{lk:Operand->Option SV}(hl:∀x sv,lk x=some sv->Den J sv (a.eval x)){K':SV->u0->Nat->Prop}(h:oW M o lk O nx K'){next:Act->World->Prop}{Q:Exit->Act->World->Prop}
 (hn:∀u v O' vZ η' w',Jj M.C.N o.dst=true->J<+:η'->vU M η' w' O' vZ->Den η' v u->K' v O' vZ->next (a.put o.dst u) w'):o.wpIn M.uq 0 M.P a w next Q:=by
 unfold oW at h;split at h
 exact h.out.elim;rename_i hd
 have main:∀{op:Op},o.op=op->(wj M.C lk O nx op).go O nx K'->o.wpIn M.uq 0 M.P a w next Q:=by
  intro op ho h;subst ho;obtain⟨v,O',vZ,h1,h2⟩:=uz.go_ok h;obtain⟨u,w',η',h3,h4,h5,h6,_⟩:=DK ⟨K.heap,hT,hl⟩ o h1;exact DT M.all h3 (hn u v O' vZ η' w' hd h4 h5 h6 h2)
 split at h
 .rename_i c ho;split at h
  exact main ho h
  .split at h
   .rename_i f args hc;rw[XQ]at h;refine PT ho K.heap hl hc h fun v r O' vZ η' w' h1 h2 h3 h4=>?_;rw[Yl,Vj]at h4;exact hn v r O' vZ η' w' hd h1 h2 h3 h4
   .split at h
    .rename_i j args hc;rw[XQ]at h;refine Zfr ho K.heap hl hc h fun v r O' vZ η' w' h1 h2 h3 h4=>?_;rw[Yl,Vj]at h4;exact hn v r O' vZ η' w' hd h1 h2 h3 h4
    exact h.out.elim
 exact main rfl h
theorem PU:∀{kp fr:Fr},EU kp fr->∀{t:Nat} {v:SV},u6 t kp=some v->u6 t fr=some v
 | [],fr,_,t,v,h=>by simp[u6]at h
 |(d,u)::r,fr,hk,t,v,h=>by
  rw[Z6]at h;split at h
  rename_i e;subst e;injection h with h;subst h;exact hk.1
  exact PU hk.2 h
theorem u7.kept{kp fr:Fr}{a:Act}(hm:u7 M J fr O nx a w)(hk:EV kp fr){η':Env}{w':World}{O':u0}{vZ:Nat}(hp:J<+:η')(H:vU M η' w' O' vZ):u7 M η' kp O' vZ a w':=
 ⟨H,hm.size,hm.fN,by rw[<-hk.1];exact hm.defers.mono hp,VD hp hm.ro,fun t v ht=>(hm.frame t v (PU hk.2 ht)).mono hp⟩
theorem Zfs{o:Oper}{a:Act}{c:Call}{lk:Operand->Option SV}{f:FuncId}{args:List SV}{KP K:SV->u0->Nat->Prop}{next:Act->World->Prop}{Q:Exit->Act->World->Prop}(ho:o.op= .call c)(H:vU M J w O nx)(hl:∀x sv,lk x=some sv->Den J sv (a.eval x))
 (hc:VA lk c=some (f,args)) (hC:qn M f args O nx KP K) (hn:∀v r O' vZ η' w',J<+:η'->vU M η' w' O' vZ->Den η' r v->K r O' vZ->next (a.put o.dst v) w')
 (hp:∀v r O' vZ η' w',J<+:η'->vU M η' w' O' vZ->Den η' r v->KP r O' vZ->Q (.panic [{v,recovered:=false}]) a w'):o.wpIn M.uq 0 M.P a w next Q:=by
 unfold VA at hc;split at hc
 case h_2=>cases hc
 rename_i ff bW;split at hc
 case h_2=>cases hc
 rename_i f' first cap args' hf hargs;simp only[zh,yF]at hc;obtain⟨rfl,rfl⟩:=hc;have pN:=hl _ _ hf;simp only[Den]at pN;obtain⟨us,vs,sU,h1,h2⟩:=pN;have hall:=YJ (YJ h1 (WD hl hargs)) h2
 have gx:(execOp a.eval o).run M.P w=(callFunc f' ⟨us++c.args.toList.map a.eval++vs⟩).run M.P w:=by
  have:(⟨us⟩++c.args.map a.eval++⟨vs⟩:Array Value)=⟨us++c.args.toList.map a.eval++vs⟩:=by apply yC;simp
  rw[<-this];simp[execOp,ho,resolve,bW,sU,Deferred.ofValue,invoke]
 refine⟨fun f _=>M.all f,?_⟩;rw[DR ho,gx];rcases hC.out J w _ H hall with⟨g,hg,jZ⟩|⟨v,w',hv,r,O',vZ,η',h3,h4,h5,h6⟩
 .rw[hg];refine⟨(fun h=>by cases h),?_⟩;have jZ:CallsIn M.uq (0-1) M.P g _ w _:=callsIn_wide.2 jZ;refine jZ.mono fun e w' he=>?_;rcases he with⟨v,rfl,r,O',vZ,η',h3,h4,h5,h6⟩|⟨v,rfl,r,O',vZ,η',h3,h4,h5,h6⟩
  exact hn v r O' vZ η' w' h3 h4 h5 h6;exact hp v r O' vZ η' w' h3 h4 h5 h6
 .rw[hv];exact hn v r O' vZ η' w' h3 h4 h5 h6
theorem Zft(hT:ux M.P M.C.T){fr:Fr}{a:Act}(hm:u7 M J fr O nx a w){o:Oper}{K':Fr->SV->u0->Nat->Prop}(h:lZ M o fr O nx K'){next:Act->World->Prop}{Q:Exit->Act->World->Prop}
 (hn:∀fr' u v O' vZ η' a' w',Jj M.C.N o.dst=true->u7 M η' fr' O' vZ a' w'->Den η' v u->K' fr' v O' vZ->next (a'.put o.dst u) w') (hp:∀ch w',Fs M ch a w'->Q (.panic ch) a w'):o.wpIn M.uq 0 M.P a w next Q:=by
 have hl:∀x sv,Jx fr x=some sv->Den J sv (a.eval x):=fun x sv hx=>Yn hm.frame hx
 have hn0:∀u v O' vZ η' w',Jj M.C.N o.dst=true->J<+:η'->vU M η' w' O' vZ->Den η' v u->K' fr v O' vZ->next (a.put o.dst u) w':=fun u v O' vZ η' w' hd h1 h2 h3 h4=>
  hn fr u v O' vZ η' a w' hd ⟨h2,hm.size,hm.fN,hm.defers.mono h1,VD h1 hm.ro,hm.frame.mono h1⟩ h3 h4
 unfold lZ at h;split at h
 exact JZ hT hm hl h hn0;rename_i kp X hpx;split at h
 exact h.out.elim;rename_i hd;split at h
 .rename_i x ho;split at h
  case h_2=>exact h.out.elim
  rename_i t u hx;rw[Yl]at h;have fR:=hl _ _ hx;have Kl:=fR;simp only[Den]at fR;obtain⟨y,hv,hy⟩:=fR;refine⟨fun f _=>M.all f,?_⟩;rw[Oper.semAt_eq _ _ _ (fun c' hc=>by rw[ho]at hc;cases hc)]
  have gx:(execOp a.eval o).run M.P w= .halt (.panic (a.eval x)) w:=by
   rw[hv];simp[execOp,ho,hv,Instr.panic]
  rw[gx];exact hp _ _ ⟨kp,X,hpx,J,O,nx,_,_,rfl,hm.kept h.1 zx hm.heap,Kl,h.2⟩
 .rename_i c ho;unfold OP at h;split at h
  exact h.out.elim;rename_i hro;split at h
  case h_2=>exact h.out.elim
  rename_i f bW hargs;split at h
  case h_2=>exact h.out.elim
  rename_i g cap hf;split at h
  case h_2=>exact h.out.elim
  rename_i hds;have pN:=hl _ _ hf;simp only[Den]at pN;obtain⟨us,vs,sU,h1,h2⟩:=pN;simp only[vX]at h1;subst h1;have sV:c.args= #[]:=by apply yC;simpa using hargs
  have hr:M.uq.round=none:=by simp[Mx.uq,hro]
  refine⟨fun f _=>M.all f,?_⟩;rw[hr,Oper.semAt_none]
  have gx:(execOp a.eval o).run M.P w= .ok (.defer {target:= .fn (.func g) ⟨vs⟩,args:= #[]}) w:=by
   simp[execOp,ho,resolve,bW,sV,sU,Deferred.ofValue]
  rw[gx];refine hn _ undef YF O nx J {a with defers:={target:= .fn (.func g) ⟨vs⟩,args:= #[]}::a.defers} w hd ⟨hm.heap,hm.size,hm.fN,?_,hm.ro,fun t v ht=>?_⟩ (JC J) h
  .rw[Z6,z8 rfl];have hde:a.defers=[]:=by have:=hm.defers;rw[hds]at this;exact this
   show jh J _ _
   simp only[jh];exact⟨[],vs,[],rfl,h2,by rw[hde],rfl⟩
  .rw[Z6]at ht;split at ht
   .rename_i e;injection ht with ht;subst ht;simp only[Den]
   exact hm.frame t v ht
 .rename_i c ho;split at h
  exact JZ hT hm hl h hn0
  .split at h
   .rename_i f args hc;rw[XQ]at h;refine Zfs ho hm.heap hl hc h (fun v r O' vZ η' w' h1 h2 h3 h4=>?_) fun v r O' vZ η' w' h1 h2 h3 h4=>?_
    .rw[Yl,Vj]at h4;exact hn0 v r O' vZ η' w' hd h1 h2 h3 h4
    exact hp _ _ ⟨kp,X,hpx,η',O',vZ,v,r,rfl,hm.kept h4.1 h1 h2,h3,h4.2⟩
   exact JZ hT hm hl h hn0
 exact JZ hT hm hl h hn0
theorem Vn{ops:Array Oper}{a:Act}{j s:Nat}(h:Ue ops.toList j=some s){b:Bool}(hb:a.tmps.getD s undef= .bool b):yielded ops a.tmps j=some b:=by
 unfold Ue at h;rw[V9]at h;unfold yielded;cases ho:ops.toList[j]? with
 |none=>rw[ho]at h;cases h
 |some o=>
  rw[ho]at h;simp only at h;have ho':ops[j]?=some o:=by simpa using ho
  have hs:s<a.tmps.size:=by
   rcases yD s a.tmps.size with hlt|hge
   exact hlt;rw[y5,xJ hge]at hb;cases hb
  rw[y5,yM hs]at hb;simp only[Option.getD_some]at hb;simp[ho',h,yM hs,hb]
theorem VE{ops:Array Oper}{a:Act}{j s:Nat}(h:Ue ops.toList j=some s){want:Bool}(hb:a.tmps.getD s undef≠ .bool want):yielded ops a.tmps j≠some want:=by
 unfold Ue at h;rw[V9]at h;unfold yielded;cases ho:ops.toList[j]? with
 |none=>rw[ho]at h;cases h
 |some o=>
  rw[ho]at h;simp only at h;have ho':ops[j]?=some o:=by simpa using ho
  simp only[ho',Option.bind_some,h];intro hy;split at hy
  .rename_i b hq;injection hy with hy;subst hy;apply hb;rw[y5,hq];rfl
  cases hy
theorem Xp{P:Program}{ops:Array Oper}{Q:Exit->Act->World->Prop}{a:Act}{w:World}{rest:List Oper}{o:Oper}(hw:Region.wanted o (yielded ops a.tmps)=true){F:Fence}(h:o.wpIn F 0 P a w (wpListIn F 0 P ops Q rest) Q):wpListIn F 0 P ops Q (o::rest) a w:=by
 unfold wpListIn;rw[z8 hw];exact h
theorem Xy{P:Program}{ops:Array Oper}{Q:Exit->Act->World->Prop}{a:Act}{w:World}{rest:List Oper}{o:Oper}(hw:¬Region.wanted o (yielded ops a.tmps)=true){F:Fence}(hF:∀f,F.fn f)(h:wpListIn F 0 P ops Q rest (a.put o.dst undef) w):wpListIn F 0 P ops Q (o::rest) a w:=by
 unfold wpListIn;rw[z6 hw];exact⟨fun f _=>hF f,h⟩
theorem XR{o:Oper}{y:Nat->Option Bool}(h:o.guard=none):Region.wanted o y=true:=by simp[Region.wanted,h]
theorem Zy{o:Oper}{y:Nat->Option Bool}{j:Nat}{b:Bool}(h:o.guard=some (j,b)):Region.wanted o y=true<->y j=some b:=by simp[Region.wanted,h]
theorem DU(hT:ux M.P M.C.T){ops:Array Oper}{Q:Exit->Act->World->Prop}:∀(rest:List Oper) {fr:Fr} {O:u0} {nx:Nat} {K:Fr->u0->Nat->Prop},o5 M ops.toList rest fr O nx K->
 ∀{J:Env} {a:Act} {w:World},u7 M J fr O nx a w->(∀J fr O nx a w,u7 M J fr O nx a w->K fr O nx->Q .normal a w)->(∀ch a w,Fs M ch a w->Q (.panic ch) a w)->wpListIn M.uq 0 M.P ops Q rest a w
 | [],fr,O,nx,K,h,J,a,w,hm,hq,hp=>hq J fr O nx a w hm h
 |o::rest,fr,O,nx,K,h,J,a,w,hm,hq,hpa=>by
  replace h:EY M ops.toList o rest (o5 M ops.toList rest) fr O nx K:=h
  unfold EY at h
  have step:∀{fr':Fr},u7 M J fr' O nx a w->lZ M o fr' O nx (fun fr v O nx=>wJ o.dst v fr fun fr=>o5 M ops.toList rest fr O nx K)->o.wpIn M.uq 0 M.P a w (wpListIn M.uq 0 M.P ops Q rest) Q:=by
   intro fr' hm' h;refine Zft hT hm' h (fun fK u v O' vZ η' a' w' hd hM hv hk=>?_) fun ch w' hr=>hpa ch a w' hr;obtain⟨fK,h1,h2⟩:=hM.put hd zx hM.heap hv hk;exact DU hT rest h1 h2 hq hpa
  have skip:∀{fr':Fr},u7 M J fr' O nx a w->(match Jj M.C.N o.dst with|true=>wJ o.dst YF fr' fun fr=>o5 M ops.toList rest fr O nx K|false=>uE "slot")->wpListIn M.uq 0 M.P ops Q rest (a.put o.dst undef) w:=by
   intro fr' hm' h;split at h
   .rename_i hd;obtain⟨fK,h1,h2⟩:=hm'.put hd zx hm'.heap (JC J) h;exact DU hT rest h1 h2 hq hpa
   exact h.out.elim
  split at h
  .rename_i hg;exact Xp (XR hg) (step hm h)
  .rename_i j want hg;split at h
   exact h.out.elim;rename_i s hs;split at h
   .rename_i b hb;have qE:=YS (hm.frame s _ hb);have hy:=Vn hs qE;cases b with
    |true=>
     have h:=h.t rfl;have hm':u7 M J ((s, .bool true)::fr) O nx a w:=hm.know hb rfl rfl qE;cases want with
     |true=>exact Xp ((Zy hg).2 hy) (step hm' h)
     |false=>exact Xy (hF:=M.all) (fun hw=>by rw[Zy hg,hy]at hw;cases hw) (skip hm' h)
    |false=>
     have h:=h.f rfl;have hm':u7 M J ((s, .bool false)::fr) O nx a w:=hm.know hb rfl rfl qE;cases want with
     |false=>exact Xp ((Zy hg).2 hy) (step hm' h)
     |true=>exact Xy (hF:=M.all) (fun hw=>by rw[Zy hg,hy]at hw;cases hw) (skip hm' h)
   .rename_i hb;have qE:=hm.frame s _ hb;simp only[Den,vX]at qE;obtain⟨vs,qE,rfl⟩:=qE;exact Xy (hF:=M.all) (fun hw=>by rw[Zy hg]at hw;exact VE hs (by rw[qE];simp) hw) (skip hm h)
   .rename_i n hb;have qE:=hm.frame s _ hb;simp only[Den]at qE;obtain⟨b,qE,hn0⟩:=qE;have hy:=Vn hs qE;cases b with
    |true=>
     have h:=h.t (hn0 rfl);have hm':u7 M J ((s, .bool true)::fr) O nx a w:=hm.know hb rfl rfl qE;cases want with
     |true=>exact Xp ((Zy hg).2 hy) (step hm' h)
     |false=>exact Xy (hF:=M.all) (fun hw=>by rw[Zy hg,hy]at hw;cases hw) (skip hm' h)
    |false=>
     have h:=h.f;have hm':u7 M J ((s, .bool false)::fr) O nx a w:=hm.know hb rfl rfl qE;cases want with
     |false=>exact Xp ((Zy hg).2 hy) (step hm' h)
     |true=>exact Xy (hF:=M.all) (fun hw=>by rw[Zy hg,hy]at hw;cases hw) (skip hm' h)
   exact h.out.elim
end
section
variable {M:Mx}{J:Env}{w:World}{O:u0}{nx:Nat}
theorem w5.sub{a:Act}:∀{p q:List (Nat×Bool)},Ft p q=true->w5 a q->w5 a p
 | [],q,_,_=>fun x hx=>by cases hx
 |(s,b)::p,q,h,hq=>by
  simp only[Ft,zk,xG]at h;obtain⟨⟨x,hx,h1⟩,h2⟩:=h;have h3:=Zq h1.1;have h4:x.2=b:=by simpa using h1.2
  intro y hy;rcases zI.1 hy with rfl|hy
  have:=hq x hx;rw[h3,h4]at this;exact this;exact w5.sub h2 hq y hy
theorem Uj{a:Act}{fr:Fr}{gs:Gs}{path:List (Nat×Bool)}(hf:jm J a fr)(hg:cS J a gs)(hp:w5 a path){x:Operand}{sv:SV}(hx:mI fr gs path x=some sv):Den J sv (a.eval x):=by
 cases x with
 |tmp t=>
  simp only[mI]at hx;split at hx
  .rename_i q v hq;split at hx
   .rename_i hs;injection hx with hx;subst hx;exact(hg t q v hq).1 (w5.sub hs hp)
   cases hx
  exact hf t sv hx
 |const v=>exact Yn hf hx
 |global g=>exact Yn hf hx
 |func f=>exact Yn hf hx
theorem PV{a:Act}{fr:Fr}{gs:Gs}(hf:jm J a fr)(hg:cS J a gs):∀{path:List (Nat×Bool)} {g:Bool},WU fr gs path=some g->w5 a path->g=true
 | [],g,h,_=>by simp only[WU,zh]at h;exact h.symm
 |(s,want)::r,g,h,hp=>by
  have bN:w5 a r:=fun x hx=>hp x (zG _ hx);simp only[WU]at h;split at h
  case h_2=>cases h
  rename_i b hb;have qE:=YS (Uj hf hg bN hb);have kX:=hp (s,want) (zF ..);simp only[Act.eval]at qE;rw[qE]at kX;injection kX with kX;simp only at kX;split at h
  case h_2=>cases h
  rename_i x hx;have hxt:=PV hf hg hx bN;subst hxt kX;cases b<;>simp at h<;>exact h
theorem Zfu{a:Act}{gs:Gs}(hg:cS J a gs){s:Nat}{want:Bool}(h:a.tmps.getD s undef= .bool want):w5 a (mJ gs s want):=by
 intro x hx;unfold mJ at hx;rcases zI.1 hx with rfl|hx
 exact h
 .split at hx
  .rename_i q v hq;by_cases hp:w5 a q
   exact hp x hx
   .have:=(hg s q v hq).2 hp;rw[h]at this;cases this
  cases hx
theorem w5.put{a:Act}{d:Nat}{u:Value}{p:List (Nat×Bool)}(h:K1 d p=true):w5 (a.put (some d) u) p<->w5 a p:=by
 unfold K1 at h
 have key:∀x∈p,(a.put (some d) u).tmps.getD x.1 undef=a.tmps.getD x.1 undef:=by
  intro x hx;have:=(zN.1 h) x hx;have hne:x.1≠d:=Jb (by simpa using this);exact DM hne
 exact⟨fun k x hx=>by rw[<-key x hx];exact k x hx,fun k x hx=>by rw[key x hx];exact k x hx⟩
theorem Uk{Z:Type}:∀{l:List (Nat×Z)} {t:Nat} {v:Z},u6 t l=some v->(t,v)∈l
 | [],t,v,h=>by simp[u6]at h
 |(d,u)::r,t,v,h=>by
  rw[Z6]at h;split at h
  rename_i e;subst e;injection h with h;subst h;exact zF ..
  exact zG _ (Uk h)
theorem cS.put{a:Act}{gs:Gs}(hg:cS J a gs){η':Env}(hp:J<+:η'){d:Option Tmp}{u:Value}(hd:OU d gs=true):cS η' (a.put d u) gs:=by
 cases d with
 |none=>exact fun t p sv h=>⟨fun k=>((hg t p sv h).1 k).mono hp,(hg t p sv h).2⟩
 |some d=>
  intro t p sv h;have hm:=Uk h;have:=(zN.1 hd) _ hm;simp only[zk]at this;have hne:t≠d:=Jb (by simpa using this.1);have hn:K1 d p=true:=this.2;rw[w5.put hn,DM hne];exact⟨fun k=>((hg t p sv h).1 k).mono hp,(hg t p sv h).2⟩
theorem uz.pO{g:Prop}:∀{r:uz} {K:SV->Prop},r.gg g K->∃v,(g->∀O nx,r.ok O nx v O nx)/\K v
 | .val v,K,h=>by simp only[uz.gg,Fu,Yl]at h;exact⟨v,fun _ _ _=>⟨rfl,rfl,rfl⟩,h⟩
 | .need p k,K,h=>by
   simp only[uz.gg,OR]at h;obtain⟨v,h1,h2⟩:=uz.pO h.k;exact⟨v,fun hg O nx=>⟨h.p hg,h1 hg O nx⟩,h2⟩
 | .get rs i f,K,h=>by
   simp only[uz.gg,OS,Jt]at h;obtain⟨row,hr,h⟩:=h.out;obtain⟨v,h1,h2⟩:=uz.pO h;exact⟨v,fun hg O nx=>⟨row,hr hg,h1 hg O nx⟩,h2⟩
 | .new _ _,_,h=>h.out.elim
 | .jK _ _ _,_,h=>h.out.elim
 | .fE _ _ _,_,h=>h.out.elim
 | .ite _ _ _,_,h=>h.out.elim
 | .fail,_,h=>h.out.elim
theorem PW(hT:ux M.P M.C.T){a:Act}{fr:Fr}{gs:Gs}{path:List (Nat×Bool)}(H:vU M J w O nx)(hf:jm J a fr)(hg:cS J a gs)(hp:w5 a path)(o:Oper){v:SV}{O':u0}{vZ:Nat}(hr:(Q0 M.C fr gs path O nx o.op).ok O nx v O' vZ):Y9 M J w o a.eval v O' vZ:=by
 have A:At M J w O nx a.eval (mI fr gs path):=⟨H,hT,fun x sv hx=>Uj hf hg hp hx⟩;obtain⟨dst,op,ty,pos,af,gd⟩:=o;cases op with
 |pick c x y=>
  simp only[Q0,OT]at hr;split at hr
  case h_2=>exact hr.elim
  rename_i s;split at hr
  case h_2=>exact hr.elim
  rename_i b hb;have qE:=YS (A.L _ _ hb);split at hr
  case h_2=>exact hr.elim
  rename_i p q hx hy;refine A.val hr ⟨.bool (bif b then p else q), .inl ?_,rfl⟩;cases b with
  |true=>
   have h2:=YS (Uj hf hg (path:=(s,true)::path) (fun z hz=>by
    rcases zI.1 hz with rfl|hz
    exact qE
    exact hp z hz) hx)
   simp[execOp,qE,h2,asBool]
  |false=>
   have h2:=YS (Uj hf hg (path:=(s,false)::path) (fun z hz=>by
    rcases zI.1 hz with rfl|hz
    exact qE
    exact hp z hz) hy)
   simp[execOp,qE,h2,asBool]
 |_=>exact DK A _ hr
theorem UK(hT:ux M.P M.C.T){ops:Array Oper}{Q:Exit->Act->World->Prop}:∀(rest:List Oper) {fr:Fr} {gs:Gs} {O:u0} {nx:Nat} {K:Fr->u0->Nat->Prop},oZ M ops.toList rest fr gs O nx K->
 ∀{J:Env} {a:Act} {w:World},u7 M J fr O nx a w->cS J a gs->(∀J fr O nx a w,u7 M J fr O nx a w->K fr O nx->Q .normal a w)->wpListIn M.uq 0 M.P ops Q rest a w
 | [],fr,gs,O,nx,K,h,J,a,w,hm,hg,hq=>hq J fr O nx a w hm h
 |o::rest,fr,gs,O,nx,K,h,J,a,w,hm,hg,hq=>by
  replace h:EZ M ops.toList o rest (oZ M ops.toList rest) fr gs O nx K:=h
  unfold EZ at h;split at h
  exact h.out.elim;rename_i hd;split at h
  exact h.out.elim;rename_i hfresh;split at h
  .rename_i FK;refine Xp (XR FK) ?_
   have main:∀{op:Op},o.op=op->((Q0 M.C fr gs [] O nx op).go O nx fun v O nx=>wJ o.dst v fr fun fr=>oZ M ops.toList rest fr gs O nx K)->o.wpIn M.uq 0 M.P a w (wpListIn M.uq 0 M.P ops Q rest) Q:=by
    intro op ho h;subst ho;obtain⟨v,O',vZ,h1,h2⟩:=uz.go_ok h;obtain⟨u,w',η',h3,h4,h5,h6,_⟩:=PW hT hm.heap hm.frame hg (fun x hx=>by cases hx) o h1;obtain⟨fK,h7,h8⟩:=hm.put hd h4 h5 h6 h2;exact DT M.all h3 (UK hT rest h7 h8 (hg.put h4 hfresh) hq)
   split at h
   .rename_i c ho;split at h
    exact main ho h
    .split at h
     .rename_i f args hc;rw[XQ]at h;refine PT ho hm.heap (fun x sv hx=>Uj hm.frame hg (fun x hx=>by cases hx) hx) hc h fun v r O' vZ η' w' h1 h2 h3 h4=>?_;rw[Yl,Vj]at h4;obtain⟨fK,h7,h8⟩:=hm.put hd h1 h2 h3 h4;exact UK hT rest h7 h8 (hg.put h1 hfresh) hq
     exact h.out.elim
   exact main rfl h
  .rename_i j want FK;split at h
   exact h.out.elim;rename_i s hs;split at h
   exact h.out.elim;rename_i d fu;split at h
   exact h.out.elim;rename_i hnot;split at h
   exact h.out.elim;rename_i g FL;obtain⟨v,h1,h2⟩:=uz.pO h;rw[fu]at hd hfresh;have hlt:d<a.tmps.size:=by rw[hm.size];exact DP hd
   have next:∀{η':Env} {u:Value} {w':World},J<+:η'->vU M η' w' O nx->(w5 a (mJ gs s want)->Den η' v u)->(¬w5 a (mJ gs s want)->u=undef)->wpListIn M.uq 0 M.P ops Q rest (a.put o.dst u) w':=by
    intro η' u w' hp hH hv hn;rw[fu];refine UK hT rest h2 ⟨hH,by rw[DN];exact hm.size,hm.fN,by rw[put_defers,PS hd hm.fN];exact hm.defers.mono hp,VD hp hm.ro,(hm.frame.mono hp).put hlt (by simp only[Den])⟩ ?_ hq;intro t p sv ht;rw[Z6]at ht;split at ht
    .rename_i e;subst e;injection ht with ht;injection ht with ht1 ht2;subst ht1 ht2;rw[w5.put hnot,DL hlt];exact⟨hv,hn⟩
    exact(hg.put (u:=u) hp hfresh) t p sv ht
   by_cases hw:a.tmps.getD s undef= .bool want
   .have hp:=Zfu hg hw;have hgt:=PV hm.frame hg FL hp;obtain⟨u,w',η',h3,h4,h5,h6,_⟩:=PW hT hm.heap hm.frame hg hp o (h1 hgt O nx);exact Xp ((Zy FK).2 (Vn hs hw)) (DT M.all h3 (next h4 h5 (fun _=>h6) (fun h=>absurd hp h)))
   .have hnp:¬w5 a (mJ gs s want):=fun hp=>hw (hp (s,want) (zF ..));exact Xy (hF:=M.all) (fun hh=>by rw[Zy FK]at hh;exact VE hs hw hh) (next zx hm.heap (fun h=>absurd h hnp) (fun _=>rfl))
theorem Z24{F:Fence}{P:Program}{Q:Exit->Act->World->Prop}{a:Act}{w:World}{c:Code}(h:c.wpIn F 0 P (Exit.noGoto Q) a w):(Code.scope c).wpIn F 0 P Q a w:=by
 have s1:∀{b:Frame} {a:Act} {k:List Item} {cs:List Frame} {w:World},step P (lone (b.atR a (.code (.scope c)::k)) cs w)= .next (lone (b.atR a (.code c:: .inScope c::k)) cs w):=step_lone_go (by simp[stepG,stepG.exec,Frame.atR]);have s2:∀{b:Frame} {a:Act} {k:List Item} {cs:List Frame} {w:World},step P (lone (b.atR a (.inScope c::k)) cs w)= .next (lone (b.atR a k) cs w):=step_lone_go (by simp[stepG,stepG.exec,Frame.atR]);intro b k cs hro hb hr;have h0:(lone (b.atR a (.code (.scope c)::k)) cs w).fenced P F:=fenced_calm hb hr rfl;obtain⟨e,a₁,w₁,hq,kK⟩:=h b (.inScope c::k) cs hro hb hr;cases e with
 |normal=>exact⟨.normal,a₁,w₁,hq, .head h0 s1 (StepsIn.trans kK (.one (fenced_calm hb hr rfl) s2))⟩
 |exit id=>
  have hx:exitTo id (.inScope c::k)=exitTo id k:=by simp[exitTo]
  exact⟨.exit id,a₁,w₁,hq,fun k' hk=> .head h0 s1 (kK.1 k' (by rw[hx];exact hk)),fun hr' hk=>let⟨k₁,h1,h2⟩:=kK.2 hr' (by rw[hx];exact hk);⟨k₁,h1, .head h0 s1 h2⟩⟩
 |goto l=>exact hq.elim
 |ret=>exact⟨_,a₁,w₁,hq, .of_steps (.one h0 s1) kK⟩
 |panic ch=>exact⟨_,a₁,w₁,hq, .of_steps (.one h0 s1) kK⟩
 |outgrown=>exact⟨_,a₁,w₁,hq, .of_steps (.one h0 s1) kK⟩
theorem Z6P(hT:ux M.P M.C.T){id:Nat}{ops:Array Oper}{fr:Fr}{K:Fr->u0->Nat->Prop}{Q:Exit->Act->World->Prop}
 (h:match guarded ops.toList&&!(OV ops.toList)&&M.px.isNone with|true=>oZ M ops.toList ops.toList fr [] O nx K|false=>o5 M ops.toList ops.toList fr O nx K) {a:Act} (hm:u7 M J fr O nx a w) (hq:∀J fr O nx a w,u7 M J fr O nx a w->K fr O nx->Q .normal a w) (hp:∀ch a w,Fs M ch a w->Q (.panic ch) a w):
 (Code.region id ops false).wpIn M.uq 0 M.P Q a w:=by
 refine wpIn_region_list ?_;split at h
 exact UK hT _ h hm (fun t p sv ht=>by simp[u6]at ht) hq;exact DU hT _ h hm hq hp
theorem ZX(hT:ux M.P M.C.T):∀(c:Code) {fr:Fr} {O:u0} {nx:Nat} {Q:Post},run M c fr O nx Q->Walk M c fr O nx Q
 | .skip,fr,O,nx,Q,h=>fun J a w hm=>wpIn_skip ⟨J,fr,O,nx,hm,h⟩
 | .label l,fr,O,nx,Q,h=>fun J a w hm=>wpIn_label ⟨J,fr,O,nx,hm,h⟩
 | .ret,fr,O,nx,Q,h=>fun J a w hm=>wpIn_ret ⟨J,fr,O,nx,hm,h⟩
 | .exit id,fr,O,nx,Q,h=>fun J a w hm=>wpIn_exit ⟨J,fr,O,nx,hm,h⟩
 | .region id ops draw,fr,O,nx,Q,h=>by
   simp only[run,OW]at h;cases draw with
   |true=>exact h.out
   |false=>exact fun J a w hm=>Z6P hT h hm (fun J fr O nx a w hm hk=>⟨J,fr,O,nx,hm,hk⟩) fun ch a w h=>h
 | .seq x y,fr,O,nx,Q,h=>fun J a w hm=>by
   refine wpIn_seq (Code.wpIn_mono ?_ (ZX hT x h J a w hm));intro e a w hq;cases e with
   |normal=>obtain⟨J,fr,O,nx,hm,hq⟩:=hq;exact ZX hT y hq J a w hm
   |exit id=>exact hq
   |ret=>exact hq
   |goto l=>exact hq
   |panic ch=>exact hq
   |outgrown=>exact hq
 | .cond c x y,fr,O,nx,Q,h=>fun J a w hm=>by
   simp only[run,OX]at h;split at h
   case h_3=>exact h.out.elim
   case h_2 n hb=>
    have qE:=Yn hm.frame hb;simp only[Den]at qE;obtain⟨b,qE,h0⟩:=qE;split at h
    case h_2=>exact h.out.elim
    rename_i t;refine wpIn_cond_split qE (fun e=>?_) (fun e=>?_)
    .subst e;exact ZX hT x (h.t (h0 rfl)) J a w (hm.know (s:=t) (show u6 t fr=_ from hb) rfl rfl qE)
    .subst e;exact ZX hT y h.f J a w (hm.know (s:=t) (show u6 t fr=_ from hb) rfl rfl qE)
   rename_i b hb;have qE:=YS (Yn hm.frame hb);split at h
   .rename_i t;refine wpIn_cond_split qE (fun e=>?_) (fun e=>?_)
    .subst e;exact ZX hT x (h.t rfl) J a w (hm.know (s:=t) (show u6 t fr=_ from hb) rfl rfl qE)
    .subst e;exact ZX hT y (h.f rfl) J a w (hm.know (s:=t) (show u6 t fr=_ from hb) rfl rfl qE)
   .refine wpIn_cond_split qE (fun e=>?_) (fun e=>?_);subst e;exact ZX hT x (h.t rfl) J a w hm;subst e;exact ZX hT y (h.f rfl) J a w hm
 | .block id body,fr,O,nx,Q,h=>fun J a w hm=>by
   refine wpIn_block (Code.wpIn_mono ?_ (ZX hT body h J a w hm));intro e a w hq;cases e with
   |normal=>exact hq
   |exit i=>
    obtain⟨J,fr,O,nx,hm,hq⟩:=hq;simp only[Exit.inBlock];simp only at hq;split at hq
    .rename_i e;have e:=Zq e;subst e;rw[z8 rfl];exact⟨J,fr,O,nx,hm,hq⟩
    .rename_i e;rw[z6 (Jb e)];exact⟨J,fr,O,nx,hm,hq⟩
   |ret=>exact hq
   |goto l=>exact hq
   |panic ch=>exact hq
   |outgrown=>exact hq
 | .loop body,fr,O,nx,Q,h=>fun J a w hm b k cs hro hb hr=>
   let⟨e,a',w',hq,kK⟩:=h.out J a w hm b k cs hro
   ⟨e,a',w',hq, .of_steps (.one (fenced_calm hb hr rfl) stepR_loop) kK⟩
 | .scope body,fr,O,nx,Q,h=>fun J a w hm=>by
   refine Z24 (Code.wpIn_mono ?_ (ZX hT body h J a w hm));intro e a w hq;cases e<;>exact hq
 | .rangeFunc f ps eD body,fr,O,nx,Q,h=>h.out
 | .goto _,fr,O,nx,Q,h=>h.out.elim
 | .refuse _,fr,O,nx,Q,h=>h.out.elim
structure vY(M:Mx)(fr:Fr)(O:u0)(nx:Nat)(fr':Fr)(O':u0)(vZ:Nat):Prop where
 out:∀J a w,u7 M J fr O nx a w->∃η',u7 M η' fr' O' vZ a w
theorem ua.inv{body:Code}{fr:Fr}{Q:Post}(hT:ux M.P M.C.T){X:Type}(P:X->Prop)(I:X->Fr×u0×Nat)(Y:X->Nat)(x0:X)(hP:P x0)(h0:vY M fr O nx (I x0).1 (I x0).2.1 (I x0).2.2)
 (hr:∀x,P x->run M body (I x).1 (I x).2.1 (I x).2.2 fun e fr O nx=>match e with
   | .normal=> ∃x',P x'/\Y x'<Y x/\vY M fr O nx (I x').1 (I x').2.1 (I x').2.2
   |e=>Q e fr O nx):ua M body fr O nx Q:=by
 refine⟨fun J a w hm=>?_⟩;obtain⟨η',hm0⟩:=h0.out J a w hm;intro b k cs hro;have hb:M.uq.fn b.fn:=M.all _;have hrm:M.uq.room (cs.length+1+0):=M.room _
 have key:∀n x J a w,P x->Y x=n->u7 M J (I x).1 (I x).2.1 (I x).2.2 a w->
  ∃e a' w',iZ M Q e a' w'/\ArrivesIn (Machine.fenced M.P M.uq) M.P (lone (b.atR a (.code body:: .inLoop body::k)) cs w) b k cs e a' w':=by
  intro n
  induction n using Nat.strongRecOn with
  |_ n ih=>
   intro x J a w hx hn hm;obtain⟨e,a',w',hq,kK⟩:=ZX hT body (hr x hx) J a w hm b (.inLoop body::k) cs hro hb hrm;cases e with
   |normal=>
    obtain⟨η1,qh,O1,qp,wz,x',hx',hlt,hnext⟩:=hq;obtain⟨η2,hm2⟩:=hnext.out η1 a' w' wz;obtain⟨e2,a2,w2,bO,pP⟩:=ih (Y x') (hn▸hlt) x' η2 a' w' hx' rfl hm2;exact⟨e2,a2,w2,bO, .of_steps (StepsIn.trans kK (.one (fenced_calm hb hrm rfl) stepR_inLoop)) pP⟩
   |exit id=>
    obtain⟨η1,qh,O1,qp,wz,hq⟩:=hq;exact⟨.exit id,a',w',⟨η1,qh,O1,qp,wz,hq⟩, .pass (x:= .inLoop body) rfl (fun _ _=> .inl (by simp)) kK⟩
   |ret=>
    obtain⟨η1,qh,O1,qp,wz,hq⟩:=hq;exact⟨.ret,a',w',⟨η1,qh,O1,qp,wz,hq⟩, .pass (x:= .inLoop body) rfl (fun _ _=> .inl (by simp)) kK⟩
   |goto l=>exact hq.elim
   |panic ch=>exact⟨.panic ch,a',w',hq, .pass (x:= .inLoop body) rfl (fun _ _=> .inl (by simp)) kK⟩
   |outgrown=>exact hq.elim
 exact key _ x0 η' a w hP rfl hm0
theorem ua.once{body:Code}{fr:Fr}{Q:Post}(hT:ux M.P M.C.T)
 (hr:run M body fr O nx fun e fr O nx=>match e with
   | .normal=>ua M body fr O nx Q
   |e=>Q e fr O nx):ua M body fr O nx Q:=by
 refine⟨fun J a w hm=>?_⟩;intro b k cs hro;have hb:M.uq.fn b.fn:=M.all _;have hrm:M.uq.room (cs.length+1+0):=M.room _;obtain⟨e,a',w',hq,kK⟩:=ZX hT body hr J a w hm b (.inLoop body::k) cs hro hb hrm;cases e with
 |normal=>
  obtain⟨η1,qh,O1,qp,wz,hq⟩:=hq;obtain⟨e2,a2,w2,bO,pP⟩:=hq.out η1 a' w' wz b k cs hro;exact⟨e2,a2,w2,bO, .of_steps (StepsIn.trans kK (.one (fenced_calm hb hrm rfl) stepR_inLoop)) pP⟩
 |exit id=>
  obtain⟨η1,qh,O1,qp,wz,hq⟩:=hq;exact⟨.exit id,a',w',⟨η1,qh,O1,qp,wz,hq⟩,(.pass (x:= .inLoop body) rfl (fun _ _=> .inl (by simp)) kK)⟩
 |ret=>
  obtain⟨η1,qh,O1,qp,wz,hq⟩:=hq;exact⟨.ret,a',w',⟨η1,qh,O1,qp,wz,hq⟩,(.pass (x:= .inLoop body) rfl (fun _ _=> .inl (by simp)) kK)⟩
 |goto l=>exact hq.elim
 |panic ch=>exact⟨.panic ch,a',w',hq, .pass (x:= .inLoop body) rfl (fun _ _=> .inl (by simp)) kK⟩
 |outgrown=>exact hq.elim
end
def kj(σ:Nat->Nat):wG->wG
 | .uM g=> .uM g
 | .loc i=> .loc (σ i)
mutual
def uD(σ:Nat->Nat):SV->SV
 | .bool b=> .bool b
 | .int k n=> .int k n
 | .str s=> .str s
 | .ptr b r es c=> .ptr (kj σ b) r es c
 | .sl b r es len lim=> .sl (kj σ b) r es len lim
 | .val v=> .val v
 | .agg cs=> .agg (uR σ cs)
 | .arr es rs=> .arr es (Xq σ rs)
 | .uI vs=> .uI (uR σ vs)
 | .gR t v=> .gR t (uD σ v)
 | .fn f a b=> .fn f (uR σ a) (uR σ b)
 | .mp b=> .mp (kj σ b)
 | .any=> .any
 | .nb n=> .nb n
 | .yf b=> .yf (kj σ b)
 | .jQ l=> .jQ (uR σ l)
def uR(σ:Nat->Nat):List SV->List SV
 | []=>[]
 |c::cs=>uD σ c::uR σ cs
def Xq(σ:Nat->Nat):List (List SV)->List (List SV)
 | []=>[]
 |r::rs=>uR σ r::Xq σ rs
end
def jD(σ:Nat->Nat):Fr->Fr
 | []=>[]
 |(t,v)::r=>(t,uD σ v)::jD σ r
def gW(σ:Nat->Nat):DC->DC
 | .v s=> .v (uD σ s)
 | .uC es rows=> .uC es (Xq σ rows)
def aM(σ:Nat->Nat):List DC->List DC
 | []=>[]
 |c::cs=>gW σ c::aM σ cs
def Xz(σ:Nat->Nat):List (List DC)->List (List DC)
 | []=>[]
 |r::rs=>aM σ r::Xz σ rs
theorem DV(σ:Nat->Nat):∀r:List DC,aM σ r=r.map (gW σ)
 | []=>rfl
 |c::cs=>by simp only[aM,zL,DV σ cs]
theorem DW(σ:Nat->Nat):∀rs:List (List DC),Xz σ rs=rs.map (aM σ)
 | []=>rfl
 |c::cs=>by simp only[Xz,zL,DW σ cs]
theorem PY(σ:Nat->Nat):∀r:List SV,uR σ r=r.map (uD σ)
 | []=>rfl
 |c::cs=>by simp only[uR,zL,PY σ cs]
theorem PZ(σ:Nat->Nat):∀rs:List (List SV),Xq σ rs=rs.map (uR σ)
 | []=>rfl
 |c::cs=>by simp only[Xq,zL,PZ σ cs]
theorem ZcF(σ:Nat->Nat)(c:DC):Y0 (gW σ c)=uD σ (Y0 c):=by cases c<;>rfl
theorem Vo(σ:Nat->Nat)(rs:List (List DC)):ZA (Xz σ rs)=Xq σ (ZA rs):=by
 rw[DW,PZ];unfold ZA;rw[yq,yq];refine zZ fun r _=>?_;simp only[Function.comp,DV,PY,yq];exact zZ fun c _=>ZcF σ c
theorem JD(σ:Nat->Nat)(rs:List (List DC))(i j:Nat):Yy (Xz σ rs) i j=(Yy rs i j).map fun x=>(x.1,Xq σ x.2):=by
 unfold Yy;rw[DW,z7];cases rs[i]? with
 |none=>rfl
 |some row=>
  simp only[Option.map_some,DV,z7];cases row[j]? with
  |none=>rfl
  |some c=>cases c<;>rfl
def uo(σ:Nat->Nat):Hp->Hp
 | .box row=> .box (uR σ row)
 | .rows es rs=> .rows es (Xq σ rs)
 | .wI s p=> .wI s p
 | .cI vs=> .cI vs
 | .kH T e l=> .kH T e l
 | .gJ f=> .gJ f
 | .lp st li fr=> .lp st li (jD σ fr)
 | .mp rs=> .mp (Xq σ rs)
 | .deep mp es rs=> .deep mp es (Xz σ rs)
theorem ZN{J:Type}(f:J->List SV)(h:∀x,YN (f x)=true):∀xs:List J,Zj (xs.map f)=true
 | []=>rfl
 |x::xs=>by simp only[zL,Zj,h x,ZN f h xs,zS]
theorem Wj:∀{xs ys:List (List SV)},Zj xs=true->Zj ys=true->Zj (xs++ys)=true
 | [],ys,_,h=>h
 |x::xs,ys,h,k=>by
  simp only[Zj,zk]at h;simp only[List.cons_append,Zj,h.1,Wj h.2 k,zS]
mutual
theorem Xh(σ:Nat->Nat):∀{v:SV},plain v=true->uD σ v=v
 | .bool _,_=>rfl
 | .int _ _,_=>rfl
 | .str _,_=>rfl
 | .val _,_=>rfl
 | .any,_=>rfl
 | .nb _,_=>rfl
 | .ptr (.uM _) _ _ _,_=>rfl
 | .ptr (.loc _) _ _ _,h=>by simp[plain]at h
 | .sl (.uM _) _ _ _ _,_=>rfl
 | .sl (.loc _) _ _ _ _,h=>by simp[plain]at h
 | .agg cs,h=>by simp only[plain]at h;simp only[uD,Yg σ h]
 | .arr _ rs,h=>by simp only[plain]at h;simp only[uD,ZO σ h]
 | .uI vs,h=>by simp only[plain]at h;simp only[uD,Yg σ h]
 | .gR _ v,h=>by simp only[plain]at h;simp only[uD,Xh σ h]
 | .fn _ a b,h=>by simp only[plain,zk]at h;simp only[uD,Yg σ h.1,Yg σ h.2]
 | .mp (.uM _),_=>rfl
 | .mp (.loc _),h=>by simp[plain]at h
 | .yf _,h=>by simp[plain]at h
 | .jQ _,h=>by simp[plain]at h
theorem Yg(σ:Nat->Nat):∀{vs:List SV},YN vs=true->uR σ vs=vs
 | [],_=>rfl
 |c::cs,h=>by simp only[YN,zk]at h;simp only[uR,Xh σ h.1,Yg σ h.2]
theorem ZO(σ:Nat->Nat):∀{vs:List (List SV)},Zj vs=true->Xq σ vs=vs
 | [],_=>rfl
 |c::cs,h=>by simp only[Zj,zk]at h;simp only[Xq,Yg σ h.1,ZO σ h.2]
end
theorem DX(σ:Nat->Nat):∀{fr:Fr},iX fr=true->jD σ fr=fr
 | [],_=>rfl
 |(t,v)::r,h=>by simp only[iX,zk]at h;simp only[jD,Xh σ h.1,DX σ h.2]
theorem N1(σ:Nat->Nat):∀{c:DC},Jl c=true->gW σ c=c
 | .v s,h=>by simp only[Jl]at h;simp only[gW,Xh σ h]
 | .uC _ rs,h=>by simp only[Jl]at h;simp only[gW,ZO σ h]
theorem VF(σ:Nat->Nat):∀{r:List DC},Yi r=true->aM σ r=r
 | [],_=>rfl
 |c::cs,h=>by simp only[Yi,zk]at h;simp only[aM,N1 σ h.1,VF σ h.2]
theorem V0(σ:Nat->Nat):∀{r:List (List DC)},ZD r=true->Xz σ r=r
 | [],_=>rfl
 |c::cs,h=>by simp only[ZD,zk]at h;simp only[Xz,VF σ h.1,V0 σ h.2]
theorem Ze(σ:Nat->Nat){h:Hp}(p:JU h=true):uo σ h=h:=by
 cases h<;>simp only[JU]at p<;>simp only[uo,Yg σ,ZO σ,DX σ,V0 σ,p]
section
variable {K η':Env}{σ:Nat->Nat}
def oc(K η':Env)(σ:Nat->Nat):Prop:=∀i x,K[i]?=some x->η'[σ i]?=some x
theorem oc.get(h:oc K η' σ){b:wG}{x:Option qJ}(hb:K.get b=some x):η'.get (kj σ b)=some x:=by
 cases b with
 |uM g=>exact hb
 |loc i=>exact h i x hb
mutual
theorem Den.uD(h:oc K η' σ):∀{sv:SV} {v:Value},Den K sv v->Den η' (uD σ sv) v
 | .bool _,_,d=>d
 | .int _ _,_,d=>d
 | .str _,_,d=>d
 | .ptr b r es c,v,d=>by
   simp only[Den,Go.Sx.uD]at d⊢;obtain⟨e,h1,h2⟩:=d;exact⟨e,h.get h1,h2⟩
 | .sl b r es len lim,v,d=>by
   simp only[Den,Go.Sx.uD]at d⊢;rcases d with⟨h1,h2⟩|⟨e,o,h1,h2⟩
   exact .inl ⟨h.get h1,h2⟩;exact .inr ⟨e,o,h.get h1,h2⟩
 | .val _,_,d=>d
 | .agg cs,v,d=>by
   simp only[Den,Go.Sx.uD]at d⊢;obtain⟨vs,h1,h2,h3⟩:=d;exact⟨vs,h1,vX.uD h h2,h3⟩
 | .arr es rs,v,d=>by
   simp only[Den,Go.Sx.uD]at d⊢;obtain⟨vs,h1,h2,h3⟩:=d;exact⟨vs,h1,uk.uD h h2,h3⟩
 | .uI ts,v,d=>by
   simp only[Den,Go.Sx.uD]at d⊢;obtain⟨vs,h1,h2⟩:=d;exact⟨vs,h1,vX.uD h h2⟩
 | .gR t x,v,d=>by
   simp only[Den,Go.Sx.uD]at d⊢;obtain⟨u,h1,h2⟩:=d;exact⟨u,h1,Den.uD h h2⟩
 | .fn f a b,v,d=>by
   simp only[Den,Go.Sx.uD]at d⊢;obtain⟨us,vs,h1,h2,h3⟩:=d;exact⟨us,vs,h1,vX.uD h h2,vX.uD h h3⟩
 | .mp b,v,d=>by
   simp only[Den,Go.Sx.uD]at d⊢;obtain⟨e,h1,h2⟩:=d;exact⟨e,h.get h1,h2⟩
 | .yf b,v,d=>by
   simp only[Den,Go.Sx.uD]at d⊢;obtain⟨e,h1,h2⟩:=d;exact⟨e,h.get h1,h2⟩
 | .jQ _,_,d=>d
 | .any,_,d=>d
 | .nb _,_,d=>d
theorem vX.uD(h:oc K η' σ):∀{cs:List SV} {vs:List Value},vX K cs vs->vX η' (uR σ cs) vs
 | [],_,d=>d
 |c::cs,vs,d=>by
  simp only[vX,uR]at d⊢;obtain⟨u,us,h1,h2,h3⟩:=d;exact⟨u,us,h1,Den.uD h h2,vX.uD h h3⟩
theorem uk.uD{es:Nat}(h:oc K η' σ):∀{rs:List (List SV)} {vs:List Value},uk K es rs vs->uk η' es (Xq σ rs) vs
 | [],_,d=>d
 |r::rs,vs,d=>by
  simp only[uk,Xq]at d⊢;obtain⟨us,ws,h1,h2,h3,h4⟩:=d;exact⟨us,ws,h1,h2,vX.uD h h3,uk.uD h h4⟩
end
def fH(K η':Env)(σ:Nat->Nat)(k:Nat):Prop:=∀i x,i<k->K[σ i]?=some x->η'[i]?=some x
mutual
def Y2(k:Nat):SV->Bool
 | .bool _| .int _ _| .str _| .val _| .any| .nb _=>true
 | .ptr b _ _ _=>mP k b
 | .sl b _ _ _ _=>mP k b
 | .agg cs=>ZZ k cs
 | .arr _ rs=>YC k rs
 | .uI vs=>ZZ k vs
 | .gR _ v=>Y2 k v
 | .fn _ a b=>ZZ k a&&ZZ k b
 | .mp b=>mP k b
 | .yf b=>mP k b
 | .jQ l=>ZZ k l
def ZZ(k:Nat):List SV->Bool
 | []=>true
 |c::cs=>Y2 k c&&ZZ k cs
def YC(k:Nat):List (List SV)->Bool
 | []=>true
 |r::rs=>ZZ k r&&YC k rs
def mP(k:Nat):wG->Bool
 | .uM _=>true
 | .loc i=>Nat.blt i k
end
def Wk(k:Nat):Fr->Bool
 | []=>true
 |(_,v)::r=>Y2 k v&&Wk k r
def mQ(k:Nat):DC->Bool
 | .v s=>Y2 k s
 | .uC _ rs=>YC k rs
def Xr(k:Nat):List DC->Bool
 | []=>true
 |c::cs=>mQ k c&&Xr k cs
def Yq(k:Nat):List (List DC)->Bool
 | []=>true
 |r::rs=>Xr k r&&Yq k rs
def Zp(k:Nat):Hp->Bool
 | .box row=>ZZ k row
 | .rows _ rs=>YC k rs
 | .wI _ _=>true
 | .cI _=>true
 | .kH _ _ _=>true
 | .mp rs=>YC k rs
 | .gJ _=>true
 | .lp _ _ fr=>Wk k fr
 | .deep _ _ rs=>Yq k rs
mutual
theorem Xs(k:Nat):∀{v:SV},plain v=true->Y2 k v=true
 | .bool _,_=>rfl
 | .int _ _,_=>rfl
 | .str _,_=>rfl
 | .val _,_=>rfl
 | .any,_=>rfl
 | .nb _,_=>rfl
 | .ptr (.uM _) _ _ _,_=>rfl
 | .ptr (.loc _) _ _ _,h=>by simp[plain]at h
 | .sl (.uM _) _ _ _ _,_=>rfl
 | .sl (.loc _) _ _ _ _,h=>by simp[plain]at h
 | .agg cs,h=>by simp only[plain]at h;simp only[Y2,ZP k h]
 | .arr _ rs,h=>by simp only[plain]at h;simp only[Y2,Zc k h]
 | .uI vs,h=>by simp only[plain]at h;simp only[Y2,ZP k h]
 | .gR _ v,h=>by simp only[plain]at h;simp only[Y2,Xs k h]
 | .fn _ a b,h=>by simp only[plain,zk]at h;simp only[Y2,ZP k h.1,ZP k h.2,zS]
 | .mp (.uM _),_=>rfl
 | .mp (.loc _),h=>by simp[plain]at h
 | .yf _,h=>by simp[plain]at h
 | .jQ _,h=>by simp[plain]at h
theorem ZP(k:Nat):∀{vs:List SV},YN vs=true->ZZ k vs=true
 | [],_=>rfl
 |c::cs,h=>by simp only[YN,zk]at h;simp only[ZZ,Xs k h.1,ZP k h.2,zS]
theorem Zc(k:Nat):∀{vs:List (List SV)},Zj vs=true->YC k vs=true
 | [],_=>rfl
 |c::cs,h=>by simp only[Zj,zk]at h;simp only[YC,ZP k h.1,Zc k h.2,zS]
end
theorem Ul(k:Nat):∀{fr:Fr},iX fr=true->Wk k fr=true
 | [],_=>rfl
 |(t,v)::r,h=>by simp only[iX,zk]at h;simp only[Wk,Xs k h.1,Ul k h.2,zS]
theorem N3(k:Nat):∀{c:DC},Jl c=true->mQ k c=true
 | .v s,h=>by simp only[Jl]at h;simp only[mQ,Xs k h]
 | .uC _ rs,h=>by simp only[Jl]at h;simp only[mQ,Zc k h]
theorem Jr(k:Nat):∀{r:List DC},Yi r=true->Xr k r=true
 | [],_=>rfl
 |c::cs,h=>by simp only[Yi,zk]at h;simp only[Xr,N3 k h.1,Jr k h.2,zS]
theorem J6(k:Nat):∀{r:List (List DC)},ZD r=true->Yq k r=true
 | [],_=>rfl
 |c::cs,h=>by simp only[ZD,zk]at h;simp only[Yq,Jr k h.1,J6 k h.2,zS]
theorem Jc(k:Nat){h:Hp}(p:JU h=true):Zp k h=true:=by
 cases h<;>simp only[JU]at p<;>simp only[Zp,ZP k,Zc k,Ul k,J6 k,p]
variable {k:Nat}
theorem fH.get(h:fH K η' σ k){b:wG}{x:Option qJ}(hk:mP k b=true)(hb:K.get (kj σ b)=some x):η'.get b=some x:=by
 cases b with
 |uM g=>exact hb
 |loc i=>exact h i x (by simpa[mP]using hk) hb
mutual
theorem Den.uj(h:fH K η' σ k):∀{sv:SV} {v:Value},Y2 k sv=true->Den K (uD σ sv) v->Den η' sv v
 | .bool _,_,_,d=>d
 | .int _ _,_,_,d=>d
 | .str _,_,_,d=>d
 | .ptr b r es c,v,hk,d=>by
   simp only[Den,Go.Sx.uD]at d⊢;obtain⟨e,h1,h2⟩:=d;exact⟨e,h.get (by simpa[Y2]using hk) h1,h2⟩
 | .sl b r es len lim,v,hk,d=>by
   simp only[Den,Go.Sx.uD]at d⊢;rcases d with⟨h1,h2⟩|⟨e,o,h1,h2⟩
   exact .inl ⟨h.get (by simpa[Y2]using hk) h1,h2⟩;exact .inr ⟨e,o,h.get (by simpa[Y2]using hk) h1,h2⟩
 | .val _,_,_,d=>d
 | .agg cs,v,hk,d=>by
   simp only[Y2]at hk;simp only[Den,Go.Sx.uD]at d⊢;obtain⟨vs,h1,h2,h3⟩:=d;exact⟨vs,h1,vX.uj h hk h2,h3⟩
 | .arr es rs,v,hk,d=>by
   simp only[Y2]at hk;simp only[Den,Go.Sx.uD]at d⊢;obtain⟨vs,h1,h2,h3⟩:=d;exact⟨vs,h1,uk.uj h hk h2,h3⟩
 | .uI ts,v,hk,d=>by
   simp only[Y2]at hk;simp only[Den,Go.Sx.uD]at d⊢;obtain⟨vs,h1,h2⟩:=d;exact⟨vs,h1,vX.uj h hk h2⟩
 | .gR t x,v,hk,d=>by
   simp only[Y2]at hk;simp only[Den,Go.Sx.uD]at d⊢;obtain⟨u,h1,h2⟩:=d;exact⟨u,h1,Den.uj h hk h2⟩
 | .fn f a b,v,hk,d=>by
   simp only[Y2,zk]at hk;simp only[Den,Go.Sx.uD]at d⊢;obtain⟨us,vs,h1,h2,h3⟩:=d;exact⟨us,vs,h1,vX.uj h hk.1 h2,vX.uj h hk.2 h3⟩
 | .mp b,v,hk,d=>by
   simp only[Den,Go.Sx.uD]at d⊢;obtain⟨e,h1,h2⟩:=d;exact⟨e,h.get (by simpa[Y2]using hk) h1,h2⟩
 | .yf b,v,hk,d=>by
   simp only[Den,Go.Sx.uD]at d⊢;obtain⟨e,h1,h2⟩:=d;exact⟨e,h.get (by simpa[Y2]using hk) h1,h2⟩
 | .jQ _,_,_,d=>d
 | .any,_,_,d=>d
 | .nb _,_,_,d=>d
theorem vX.uj(h:fH K η' σ k):∀{cs:List SV} {vs:List Value},ZZ k cs=true->vX K (uR σ cs) vs->vX η' cs vs
 | [],_,_,d=>d
 |c::cs,vs,hk,d=>by
  simp only[ZZ,zk]at hk;simp only[vX,uR]at d⊢;obtain⟨u,us,h1,h2,h3⟩:=d;exact⟨u,us,h1,Den.uj h hk.1 h2,vX.uj h hk.2 h3⟩
theorem uk.uj{es:Nat}(h:fH K η' σ k):∀{rs:List (List SV)} {vs:List Value},YC k rs=true->uk K es (Xq σ rs) vs->uk η' es rs vs
 | [],_,_,d=>d
 |r::rs,vs,hk,d=>by
  simp only[YC,zk]at hk;simp only[uk,Xq]at d⊢;obtain⟨us,ws,h1,h2,h3,h4⟩:=d;exact⟨us,ws,h1,h2,vX.uj h hk.1 h3,uk.uj h hk.2 h4⟩
end
theorem DY:∀{row:List SV} {j:Nat},(uR σ row)[j]?=(row[j]?).map (uD σ)
 | [],j=>by simp[uR]
 |c::cs,0=>by simp[uR]
 |c::cs,j+1=>by simp[uR,DY (row:=cs) (j:=j)]
theorem VG:∀{row:List SV},(uR σ row).length=row.length
 | []=>rfl
 |c::cs=>by simp[uR,VG (row:=cs)]
theorem X3:∀{rs:List (List SV)} {j:Nat},(Xq σ rs)[j]?=(rs[j]?).map (uR σ)
 | [],j=>by simp[Xq]
 |c::cs,0=>by simp[Xq]
 |c::cs,j+1=>by simp[Xq,X3 (rs:=cs) (j:=j)]
theorem Yd:∀{row:List (List SV)},(Xq σ row).length=row.length
 | []=>rfl
 |c::cs=>by simp[Xq,Yd (row:=cs)]
theorem N4:∀{row:List SV} {j:Nat} {c:SV},ZZ k row=true->row[j]?=some c->Y2 k c=true
 | [],j,c,_,h=>by simp at h
 |d::cs,0,c,hk,h=>by simp only[ZZ,zk]at hk;simp at h;subst h;exact hk.1
 |d::cs,j+1,c,hk,h=>by simp only[ZZ,zk]at hk;simp at h;exact N4 hk.2 h
theorem XS:∀{rs:List (List SV)} {j:Nat} {c:List SV},YC k rs=true->rs[j]?=some c->ZZ k c=true
 | [],j,c,_,h=>by simp at h
 |d::cs,0,c,hk,h=>by simp only[YC,zk]at hk;simp at h;subst h;exact hk.1
 |d::cs,j+1,c,hk,h=>by simp only[YC,zk]at hk;simp at h;exact XS hk.2 h
theorem um.uD(h:oc K η' σ){arr:Array Value}{o:Nat}{row:List SV}(d:um K arr o row):um η' arr o (uR σ row):=by
 intro j sv hj;rw[DY]at hj;cases hr:row[j]? with
 |none=>rw[hr]at hj;cases hj
 |some c=>
  rw[hr]at hj;simp only[Option.map_some,zh]at hj;subst hj;obtain⟨v,h1,h2,h3⟩:=d j c hr;exact⟨v,h1,h2,h3.uD h⟩
theorem um.uj(h:fH K η' σ k){arr:Array Value}{o:Nat}{row:List SV}(hk:ZZ k row=true)(d:um K arr o (uR σ row)):um η' arr o row:=by
 intro j sv hj;obtain⟨v,h1,h2,h3⟩:=d j (Go.Sx.uD σ sv) (by rw[DY,hj];rfl);exact⟨v,h1,h2,h3.uj h (N4 hk hj)⟩
theorem N5:∀{fr:Fr} {t:Nat} {v:SV},u6 t (jD σ fr)=some v->∃u,u6 t fr=some u/\v=uD σ u
 | [],t,v,h=>by simp[jD,u6]at h
 |(d,u)::r,t,v,h=>by
  simp only[jD]at h;rw[Z6]at h⊢;split at h
  rename_i e;subst e;injection h with h;exact⟨u,by simp,h.symm⟩
  rename_i e;rw[z6 e];exact N5 h
theorem N6:∀{fr:Fr} {t:Nat} {u:SV},u6 t fr=some u->u6 t (jD σ fr)=some (uD σ u)
 | [],t,v,h=>by simp[u6]at h
 |(d,u)::r,t,v,h=>by
  simp only[jD];rw[Z6]at h⊢;split at h
  rename_i e;subst e;injection h with h;subst h;rw[z8 rfl]
  rename_i e;rw[z6 e];exact N6 h
theorem N7:∀{fr:Fr} {t:Nat} {v:SV},Wk k fr=true->u6 t fr=some v->Y2 k v=true
 | [],t,v,_,h=>by simp[u6]at h
 |(d,u)::r,t,v,hb,h=>by
  simp only[Wk,zk]at hb;rw[Z6]at h;split at h
  injection h with h;subst h;exact hb.1;exact N7 hb.2 h
theorem qL.uD(h:oc K η' σ){tmps:Array Value}{fr:Fr}(d:qL K tmps fr):qL η' tmps (jD σ fr):=fun t sv ht=>by
 obtain⟨u,h1,rfl⟩:=N5 ht;exact(d t u h1).uD h
theorem qL.uj(h:fH K η' σ k){tmps:Array Value}{fr:Fr}(hk:Wk k fr=true)(d:qL K tmps (jD σ fr)):qL η' tmps fr:=fun t sv ht=>
 (d t _ (N6 ht)).uj h (N7 hk ht)
theorem jy.uD(h:oc K η' σ){r:Loop}{st:aY}{li:mH}{fr:Fr}(d:jy K r st li fr):jy η' r st li (jD σ fr):=
 let⟨h1,h2,h3,h4,h5,h6,h7⟩:=d;⟨h1,h2,h3,h4,h5,h6,h7.uD h⟩
theorem jy.uj(h:fH K η' σ k){r:Loop}{st:aY}{li:mH}{fr:Fr}(hk:Wk k fr=true)(d:jy K r st li (jD σ fr)):jy η' r st li fr:=
 let⟨h1,h2,h3,h4,h5,h6,h7⟩:=d;⟨h1,h2,h3,h4,h5,h6,h7.uj h hk⟩
theorem jh.uj(h:fH K η' σ k):∀{l:List SV} {ds:List Deferred},ZZ k l=true->jh K (uR σ l) ds->jh η' l ds
 | [],ds,_,d=>d
 |c::l,ds,hk,d=>by
  simp only[ZZ,zk]at hk;cases c with
  |ptr b _ _ _=>
   simp only[jh,uR,Go.Sx.uD]at d⊢;obtain⟨e,r,h1,h2,h3⟩:=d;exact⟨e,r,h.get (by simpa[Y2]using hk.1) h1,h2,jh.uj h hk.2 h3⟩
  |val v=>
   simp only[jh,uR,Go.Sx.uD]at d⊢;obtain⟨f,r,h1,h2,h3⟩:=d;exact⟨f,r,h1,h2,jh.uj h hk.2 h3⟩
  |fn f x y=>
   simp only[jh,uR,Go.Sx.uD]at d⊢;obtain⟨us,vs,r,h1,h2,h3,h4⟩:=d;have hb:ZZ k x=true/\ZZ k y=true:=by simpa[Y2]using hk.1
   exact⟨us,vs,r,vX.uj h hb.1 h1,vX.uj h hb.2 h2,h3,jh.uj h hk.2 h4⟩
  |_=>simp only[jh,uR,Go.Sx.uD]at d
theorem wD.uD(h:oc K η' σ){w:World}{v:Value}{es:Nat}{rows:List (List SV)}(d:wD K w v es rows):wD η' w v es (Xq σ rows):=by
 rcases d with⟨h1,rfl⟩|⟨g,cap,arr,T,fz,h1,h2,h3,h4,h5,h6⟩
 exact .inl ⟨h1,rfl⟩
 .refine .inr ⟨g,cap,arr,T,fz,by rw[Yd];exact h1,h2,h3,h4,by rw[Yd];exact h5,fun j row hr=>?_⟩;rw[X3]at hr;cases hq:rows[j]? with
  |none=>rw[hq]at hr;cases hr
  |some q=>
   rw[hq]at hr;simp only[Option.map_some,zh]at hr;subst hr;rw[VG];exact⟨(h6 j q hq).1,(h6 j q hq).2.uD h⟩
theorem wD.uj(h:fH K η' σ k){w:World}{v:Value}{es:Nat}{rows:List (List SV)}(hk:YC k rows=true)(d:wD K w v es (Xq σ rows)):wD η' w v es rows:=by
 rcases d with⟨h1,h0⟩|⟨g,cap,arr,T,fz,h1,h2,h3,h4,h5,h6⟩
 .refine .inl ⟨h1,?_⟩;have:=zf List.length h0;rw[Yd]at this;exact zO.1 this
 .refine .inr ⟨g,cap,arr,T,fz,by rw[Yd]at h1;exact h1,h2,h3,h4,by rw[Yd]at h5;exact h5,fun j row hr=>?_⟩;obtain⟨p1,p2⟩:=h6 j (uR σ row) (by rw[X3,hr];rfl);rw[VG]at p1;exact⟨p1,p2.uj h (XS hk hr)⟩
theorem qm.uD(h:oc K η' σ){w:World}{g:Nat}{o:Obj}{es:Nat}{rs:List (List DC)}(d:qm K w g o es rs):qm η' w g o es (Xz σ rs):=by
 refine⟨fun i j es' rows hk=>?_,fun i j i' j' x x' v v' k h1 h2 h3 h4 h5 h6=>?_⟩
 .rw[JD]at hk;cases hq:Yy rs i j with
  |none=>rw[hq]at hk;cases hk
  |some x=>
   rw[hq]at hk;obtain⟨es0,N8⟩:=x;simp only[Option.map_some,zh,yF]at hk;obtain⟨rfl,rfl⟩:=hk;obtain⟨v,g1,g2,g3⟩:=d.sat i j _ _ hq;exact⟨v,g1,g2.uD h,g3⟩
 .rw[JD]at h1 h2;obtain⟨y,hy,_⟩:=zH.1 h1;obtain⟨y',hy',_⟩:=zH.1 h2;exact d.ne i j i' j' y y' v v' k hy hy' h3 h4 h5 h6
theorem N9:∀{row:List DC} {j:Nat} {c:DC},Xr k row=true->row[j]?=some c->mQ k c=true
 | [],j,c,_,h=>by simp at h
 |d::cs,0,c,hk,h=>by simp only[Xr,zk]at hk;simp at h;subst h;exact hk.1
 |d::cs,j+1,c,hk,h=>by simp only[Xr,zk]at hk;simp at h;exact N9 hk.2 h
theorem Na:∀{rs:List (List DC)} {j:Nat} {c:List DC},Yq k rs=true->rs[j]?=some c->Xr k c=true
 | [],j,c,_,h=>by simp at h
 |d::cs,0,c,hk,h=>by simp only[Yq,zk]at hk;simp at h;subst h;exact hk.1
 |d::cs,j+1,c,hk,h=>by simp only[Yq,zk]at hk;simp at h;exact Na hk.2 h
theorem Z8k{rs:List (List DC)}{i j es:Nat}{rows:List (List SV)}(hk:Yq k rs=true)(h:Yy rs i j=some (es,rows)):YC k rows=true:=by
 unfold Yy at h;split at h
 .rename_i row hr;split at h
  .rename_i es' rows' hc;simp only[zh,yF]at h;obtain⟨rfl,rfl⟩:=h;exact N9 (Na hk hr) hc
  cases h
 cases h
theorem Nb:∀{r:List DC},Xr k r=true->ZZ k (r.map Y0)=true
 | [],_=>rfl
 |c::cs,h=>by
  simp only[Xr,zk]at h;simp only[zL,ZZ,Nb h.2,y6];cases c with
  |v s=>exact h.1
  |uC es rows=>rfl
theorem Jd:∀{r:List (List DC)},Yq k r=true->YC k (ZA r)=true
 | [],_=>rfl
 |c::cs,h=>by
  simp only[Yq,zk]at h;have:=Jd h.2;unfold ZA at this⊢;simp only[zL,YC,Nb h.1,this,zS]
theorem qm.uj(h:fH K η' σ k){w:World}{g:Nat}{o:Obj}{es:Nat}{rs:List (List DC)}(hk:Yq k rs=true)(d:qm K w g o es (Xz σ rs)):qm η' w g o es rs:=by
 refine⟨fun i j es' rows dr=>?_,fun i j i' j' x x' v v' k h1 h2 h3 h4 h5 h6=>?_⟩
 .obtain⟨v,g1,g2,g3⟩:=d.sat i j es' (Xq σ rows) (by rw[JD,dr];rfl);exact⟨v,g1,g2.uj h (Z8k hk dr),g3⟩
 exact d.ne i j i' j' _ _ v v' k (by rw[JD,h1];rfl) (by rw[JD,h2];rfl) h3 h4 h5 h6
theorem uS.uD(h:oc K η' σ){w:World}{i es:Nat}{rs:List (List DC)}{x:Option qJ}(hx:K.get (.loc i)=some x)(d:uS K w (.loc i) es rs):uS η' w (.loc (σ i)) es (Xz σ rs):=by
 intro e he;have:=h.get (b:= .loc i) hx;rw[show η'.get (kj σ (.loc i))=some (some e)from he]at this;injection this with this;subst this;obtain⟨h1,h2⟩:=d e hx;exact⟨h1,fun o ho=>(h2 o ho).uD h⟩
theorem vV.uD(h:oc K η' σ){w:World}{own:Bool}{i:Nat}{hp:Hp}(d:vV K w own (.loc i) hp):vV η' w own (.loc (σ i)) (uo σ hp):=by
 have hg:∀{x},K.get (.loc i)=some x->η'.get (.loc (σ i))=some x:=fun hx=>h.get (b:= .loc i) hx;cases hp with
 |box row=>
  simp only[vV,uo]at d⊢;obtain⟨e,arr,T,fz,h1,h2,h3,h4⟩:=d;exact⟨e,arr,T,fz,hg h1,h2,h3,h4.uD h⟩
 |rows es rs=>
  simp only[vV,uo]at d⊢;rcases d with⟨h1,rfl⟩|⟨e,arr,T,fz,h1,h2,h3,h4⟩
  exact .inl ⟨hg h1,rfl⟩
  .refine .inr ⟨e,arr,T,fz,hg h1,h2,by rw[Yd];exact h3,fun j row hr=>?_⟩;rw[X3]at hr;cases hq:rs[j]? with
   |none=>rw[hq]at hr;cases hr
   |some q=>
    rw[hq]at hr;simp only[Option.map_some,zh]at hr;subst hr;rw[VG];exact⟨(h4 j q hq).1,(h4 j q hq).2.uD h⟩
 |cI vs=>
  simp only[vV,uo]at d⊢;obtain⟨e,h1,h2⟩:=d;exact⟨e,hg h1,h2⟩
 |wI s p=>
  simp only[vV,uo]at d⊢;obtain⟨e,h1,h2⟩:=d;exact⟨e,hg h1,h2⟩
 |mp rs=>
  simp only[vV,uo]at d⊢;obtain⟨e,es,h1,h2,h3,h4,h5⟩:=d;refine⟨e,es,hg h1,h2,h3,by rw[Yd];exact h4,fun j row hr=>?_⟩;rw[X3]at hr;cases hq:rs[j]? with
  |none=>rw[hq]at hr;cases hr
  |some q=>
   rw[hq]at hr;simp only[Option.map_some,zh]at hr;subst hr;obtain⟨en,g1,g2,g3⟩:=h5 j q hq;exact⟨en,g1,g2,g3.uD h⟩
 |gJ f=>
  simp only[vV,uo]at d⊢;obtain⟨e,h1,h2⟩:=d;exact⟨e,hg h1,h2⟩
 |lp st li fr=>
  simp only[vV,uo]at d⊢;obtain⟨e,r,h1,h2,h3,h4⟩:=d;exact⟨e,r,hg h1,h2,h3,h4.uD h⟩
 |kH T t l=>
  simp only[vV,uo]at d⊢;obtain⟨e,h1,h2⟩:=d;exact⟨e,hg h1,h2⟩
 |deep mp es rs=>
  cases mp
  .simp only[vV,uo,Vo]at d⊢;obtain⟨d1,d2⟩:=d;obtain⟨x,hx,_⟩:=d1.o7;refine⟨?_,d2.uD h hx⟩;rcases d1 with⟨h1,h0⟩|⟨e,arr,T,fz,h1,h2,h3,h4⟩
   exact .inl ⟨hg h1,by rw[h0];rfl⟩
   .refine .inr ⟨e,arr,T,fz,hg h1,h2,by rw[Yd];exact h3,fun j row hr=>?_⟩;rw[X3]at hr;cases hq:(ZA rs)[j]? with
    |none=>rw[hq]at hr;cases hr
    |some q=>
     rw[hq]at hr;simp only[Option.map_some,zh]at hr;subst hr;rw[VG];exact⟨(h4 j q hq).1,(h4 j q hq).2.uD h⟩
  .simp only[vV,uo,Vo]at d⊢;obtain⟨⟨d1,d0⟩,d2⟩:=d;obtain⟨x,hx,_⟩:=d1.o7;refine⟨⟨?_,d0⟩,d2.uD h hx⟩;obtain⟨e,es,h1,h2,h3,h4,h5⟩:=d1;refine⟨e,es,hg h1,h2,h3,by rw[Yd];exact h4,fun j row hr=>?_⟩;rw[X3]at hr;cases hq:(ZA rs)[j]? with
   |none=>rw[hq]at hr;cases hr
   |some q=>
    rw[hq]at hr;simp only[Option.map_some,zh]at hr;subst hr;obtain⟨en,g1,g2,g3⟩:=h5 j q hq;exact⟨en,g1,g2,g3.uD h⟩
theorem uQ.uj(h:fH K η' σ k){w:World}{own:Bool}{b b':wG}(hg:∀{x},K.get b=some x->η'.get b'=some x){es:Nat}{rs:List (List SV)}(hk:YC k rs=true)(d:uQ K w own b es (Xq σ rs)):uQ η' w own b' es rs:=by
 rcases d with⟨h1,h0⟩|⟨e,arr,T,fz,h1,h2,h3,h4⟩
 .refine .inl ⟨hg h1,?_⟩;have:=zf List.length h0;rw[Yd]at this;exact zO.1 this
 .refine .inr ⟨e,arr,T,fz,hg h1,h2,by rw[Yd]at h3;exact h3,fun j row hr=>?_⟩;obtain⟨p1,p2⟩:=h4 j (uR σ row) (by rw[X3,hr];rfl);rw[VG]at p1;exact⟨p1,p2.uj h (XS hk hr)⟩
theorem gu.uj(h:fH K η' σ k){w:World}{b b':wG}(hg:∀{x},K.get b=some x->η'.get b'=some x){rs:List (List SV)}(hk:YC k rs=true)(d:gu K w b (Xq σ rs)):gu η' w b' rs:=by
 obtain⟨e,es,h1,h2,h3,h4,h5⟩:=d;refine⟨e,es,hg h1,h2,h3,by rw[Yd]at h4;exact h4,fun j row hr=>?_⟩;obtain⟨en,g1,g2,g3⟩:=h5 j (uR σ row) (by rw[X3,hr];rfl);exact⟨en,g1,g2,g3.uj h (XS hk hr)⟩
theorem uS.uj(h:fH K η' σ k){w:World}{b b':wG}(hg:∀{x},K.get b=some x->η'.get b'=some x){es:Nat}{rs:List (List DC)}{x:Option qJ}(hx:K.get b=some x)(hk:Yq k rs=true)(d:uS K w b es (Xz σ rs)):uS η' w b' es rs:=by
 intro e he;have:=hg hx;rw[he]at this;injection this with this;subst this;obtain⟨h1,h2⟩:=d e hx;exact⟨h1,fun o ho=>(h2 o ho).uj h hk⟩
theorem vV.uj(h:fH K η' σ k){w:World}{own:Bool}{i:Nat}(hi:i<k){hp:Hp}(hk:Zp k hp=true)(d:vV K w own (.loc (σ i)) (uo σ hp)):vV η' w own (.loc i) hp:=by
 have hg:∀{x},K.get (.loc (σ i))=some x->η'.get (.loc i)=some x:=fun hx=>h i _ hi hx;cases hp with
 |box row=>
  simp only[vV,uo]at d⊢;obtain⟨e,arr,T,fz,h1,h2,h3,h4⟩:=d;exact⟨e,arr,T,fz,hg h1,h2,h3,h4.uj h hk⟩
 |rows es rs=>
  simp only[vV,uo]at d⊢;rcases d with⟨h1,h0⟩|⟨e,arr,T,fz,h1,h2,h3,h4⟩
  .refine .inl ⟨hg h1,?_⟩;have:=zf List.length h0;rw[Yd]at this;exact zO.1 this
  .refine .inr ⟨e,arr,T,fz,hg h1,h2,by rw[Yd]at h3;exact h3,fun j row hr=>?_⟩;obtain⟨p1,p2⟩:=h4 j (uR σ row) (by rw[X3,hr];rfl);rw[VG]at p1;exact⟨p1,p2.uj h (XS hk hr)⟩
 |cI vs=>
  simp only[vV,uo]at d⊢;obtain⟨e,h1,h2⟩:=d;exact⟨e,hg h1,h2⟩
 |wI s p=>
  simp only[vV,uo]at d⊢;obtain⟨e,h1,h2⟩:=d;exact⟨e,hg h1,h2⟩
 |mp rs=>
  simp only[vV,uo]at d⊢;obtain⟨e,es,h1,h2,h3,h4,h5⟩:=d;refine⟨e,es,hg h1,h2,h3,by rw[Yd]at h4;exact h4,fun j row hr=>?_⟩;obtain⟨en,g1,g2,g3⟩:=h5 j (uR σ row) (by rw[X3,hr];rfl);exact⟨en,g1,g2,g3.uj h (XS hk hr)⟩
 |gJ f=>
  simp only[vV,uo]at d⊢;obtain⟨e,h1,h2⟩:=d;exact⟨e,hg h1,h2⟩
 |lp st li fr=>
  simp only[vV,uo]at d⊢;obtain⟨e,r,h1,h2,h3,h4⟩:=d;exact⟨e,r,hg h1,h2,h3,h4.uj h hk⟩
 |kH T t l=>
  simp only[vV,uo]at d⊢;obtain⟨e,h1,h2⟩:=d;exact⟨e,hg h1,h2⟩
 |deep mp es rs=>
  cases mp
  .simp only[vV,uo,Vo]at d⊢;obtain⟨d1,d2⟩:=d;obtain⟨x,hx,_⟩:=d1.o7;exact⟨d1.uj h hg (Jd hk),d2.uj h hg hx hk⟩
  .simp only[vV,uo,Vo]at d⊢;obtain⟨⟨d1,d0⟩,d2⟩:=d;obtain⟨x,hx,_⟩:=d1.o7;exact⟨⟨d1.uj h hg (Jd hk),d0⟩,d2.uj h hg hx hk⟩
end
theorem um.plain{K η':Env}{arr:Array Value}{o:Nat}{row:List SV}(hp:YN row=true)(d:um K arr o row):um η' arr o row:=
 um.uj (σ:=id) (k:=0) (fun i x hi=>by omega) (ZP 0 hp) (by rw[Yg _ hp];exact d)
theorem XT:∀{rs:List (List SV)} {i:Nat} {row:List SV},Zj rs=true->rs[i]?=some row->YN row=true
 | [],i,row,_,h=>by simp at h
 |r::rs,0,row,hp,h=>by simp only[Zj,zk]at hp;simp at h;subst h;exact hp.1
 |r::rs,i+1,row,hp,h=>by simp only[Zj,zk]at hp;simp at h;exact XT hp.2 h
theorem vV.plain{K η':Env}{w:World}{own:Bool}{g:Nat}{h:Hp}(d:vV K w own (.uM g) h)(hp:JU h=true):vV η' w own (.uM g) h:=by
 cases h with
 |box row=>
  simp only[JU]at hp;simp only[vV]at d⊢;obtain⟨e,arr,T,fz,h1,h2,h3,h4⟩:=d;exact⟨e,arr,T,fz,h1,h2,h3,h4.plain hp⟩
 |rows es rs=>
  simp only[JU]at hp;simp only[vV]at d⊢;rcases d with⟨h1,h2⟩|⟨e,arr,T,fz,h1,h2,h3,h4⟩
  exact .inl ⟨h1,h2⟩;exact .inr ⟨e,arr,T,fz,h1,h2,h3,fun i row hr=>⟨(h4 i row hr).1,(h4 i row hr).2.plain (XT hp hr)⟩⟩
 |mp rs=>
  simp only[JU]at hp;simp only[vV]at d⊢;obtain⟨e,es,h1,h2,h3,h4,h5⟩:=d;exact⟨e,es,h1,h2,h3,h4,fun i row hr=>let⟨en,g1,g2,g3⟩:=h5 i row hr;⟨en,g1,g2,vX.uj (σ:=id) (k:=0) (fun i x hi=>by omega) (ZP 0 (XT hp hr)) (by rw[Yg _ (XT hp hr)];exact g3)⟩⟩
 |wI s p=>exact d
 |cI vs=>exact d
 |gJ f=>exact d
 |lp st li fr=>
  simp only[JU]at hp;simp only[vV]at d⊢;obtain⟨e,r,h1,h2,h3,h4⟩:=d;exact⟨e,r,h1,h2,h3,jy.uj (σ:=id) (k:=0) (fun i x hi=>by omega) (Ul 0 hp) (by rw[DX _ hp];exact h4)⟩
 |kH T t l=>exact d
 |deep mp es rs=>
  simp only[JU]at hp;have hb:=J6 0 hp;have hB:fH K η' id 0:=fun i x hi=>by omega
  have e1:Xz id rs=rs:=V0 id hp;have hg:∀{x},K.get (.uM g)=some x->η'.get (.uM g)=some x:=fun hx=>hx;rw[<-e1]at d;cases mp
  .simp only[vV,Vo]at d⊢;obtain⟨d1,d2⟩:=d;obtain⟨x,hx,_⟩:=d1.o7;exact⟨d1.uj hB hg (Jd hb),d2.uj hB hg hx hb⟩
  .simp only[vV,Vo]at d⊢;obtain⟨⟨d1,d0⟩,d2⟩:=d;obtain⟨x,hx,_⟩:=d1.o7;exact⟨⟨d1.uj hB hg (Jd hb),d0⟩,d2.uj hB hg hx hb⟩
def Yz(K:Env)(w:World)(O:u0):Nat->Prop:=fun g=> ∃i h,u6 i O=some h/\u5 K w (.loc i) h g
theorem cZ{σ:Nat->Nat}{w:World}{g k:Nat}{h:Hp}:uC w g (uo σ h) k<->uC w g h k:=by
 cases h with
 |deep mp es rs=>
  simp only[uo,uC];constructor
  .rintro⟨o,i,j,x,v,h1,h2,h3,h4⟩;rw[JD]at h2;obtain⟨y,hy,_⟩:=zH.1 h2;exact⟨o,i,j,y,v,h1,hy,h3,h4⟩
  .rintro⟨o,i,j,x,v,h1,h2,h3,h4⟩;exact⟨o,i,j,_,v,h1,by rw[JD,h2];rfl,h3,h4⟩
 |_=>exact xY
theorem u5.uD{σ:Nat->Nat}{K η':Env}{w:World}{i k:Nat}{h:Hp}(hg:∀x,K[i]?=some x->η'[σ i]?=some x)(f:u5 K w (.loc i) h k):u5 η' w (.loc (σ i)) (uo σ h) k:=
 let⟨e,h1,h2⟩:=f;⟨e,hg _ h1,h2.imp id cZ.2⟩
theorem u5.uj{σ:Nat->Nat}{K η':Env}{w:World}{i k:Nat}{h:Hp}(hg:∀x,η'[σ i]?=some x->K[i]?=some x)(f:u5 η' w (.loc (σ i)) (uo σ h) k):u5 K w (.loc i) h k:=
 let⟨e,h1,h2⟩:=f;⟨e,hg _ h1,h2.imp id cZ.1⟩
def qT(S:u0):List (wG×Hp):=S.map fun p=>(wG.loc p.1,p.2)
structure vW(P:Program)(T:qg)(f:FuncId)(k:Nat)(args:List SV)(O S:u0)(Q:SV->u0->Nat->Prop):Prop where
 out:∀(M:Mx) (vs:List Value),M.P=P->M.C.T=T->M.F=Yz M.η0 M.w0 O->M.C.S=qT S->vU M M.η0 M.w0 O k->vX M.η0 args vs->
  j7 M.P f ⟨vs⟩ M.w0 fun v w'=> ∃r O' vZ η',Q r O' vZ/\M.η0<+:η'/\vU M η' w' O' vZ/\Den η' r v
def XU:Nat->List SV->Fr
 |_,[]=>[]
 |n,v::vs=>(n,v)::XU (n+1) vs
def Nc(p:Prop)(_:uz)(k:jV):jV:=fun K=>ud p (k K)
def Nd(rs:List (List SV))(i:Nat)(_:List SV->uz)(f:List SV->jV):jV:=fun K=>GET rs i fun row=>Wh row fun row=>f row K
def mR:jV:=fun _=>uE "result"
noncomputable def uz.gv (r:uz):jV:=
 uz.rec (motive:=fun _=>jV) Fu (fun _ _=>mR) (fun _ _ _=>mR) (fun _ _ _=>mR) Nc Nd (fun _ _ _ _ _=>mR) (fun _ _ _ _ _=>mR) (fun _ _ _ _ _=>mR) (fun _ _ _ _=>mR) (fun _ _ _ _=>mR) mR r
abbrev pQ:=(List SV->Prop)->Prop
def ZjI:pQ:=fun K=>K []
noncomputable def Km (C:Cx)(fr:Fr)(O:u0)(v:ResultVar)(_:List ResultVar)(r:pQ):pQ:=fun K=>match v with
 | .tmp t=>match u6 t fr with
   |some v=>r fun vs=>K (v::vs)
   |none=>uE "result"
 | .cell a t=>match u6 a fr with
   |some p=>(iY C.T (Yv C O) t p).gv fun v=>r fun vs=>K (v::vs)
   |none=>uE "result"
noncomputable def Wb (C:Cx)(fr:Fr)(O:u0)(l:List ResultVar):pQ:=List.rec (motive:=fun _=>pQ) ZjI (Km C fr O) l
def mo:List SV->SV
 | [v]=>v
 |vs=> .uI vs
structure u9(M:Mx)(O:u0)(nx:Nat)(r:SV)(Q:SV->u0->Nat->Prop):Prop where
 out:∀J w v,vU M J w O nx->Den J r v->∃r' O' vZ η',Q r' O' vZ/\M.η0<+:η'/\vU M η' w O' vZ/\Den η' r' v
def mS(M:Mx)(O:u0)(nx:Nat)(Q:SV->u0->Nat->Prop):List SV->Prop
 | [v]=>u9 M O nx v Q
 |vs=>u9 M O nx (.uI vs) Q
theorem DZ{M:Mx}{O:u0}{nx:Nat}{Q:SV->u0->Nat->Prop}:∀vs,mS M O nx Q vs=u9 M O nx (mo vs) Q
 | []=>rfl
 | [_]=>rfl
 |_::_::_=>rfl
def Q3:List SV->u0->(u0->Prop)->Prop
 | [],O,K=>K O
 |c::l,O,K=>match c with
  | .ptr (.loc j) _ _ _=>match u6 j O with
    |some (.gJ [])=>oV j O fun O=>Q3 l O K
    |_=>uE "put off"
  | .val v=>match l with
    | .ptr (.loc j) _ _ _::l'=>match u6 j O with
      |some (.gJ f)=>ud (v=oU f) (oV j O fun O=>Q3 l' O K)
      |_=>uE "put off"
    |_=>uE "put off"
  |_=>uE "put off"
def mq(fr:Fr)(O:u0)(K:u0->Prop):Prop:=match u6 DS fr with
 |some v=>match v with
  | .jQ l=>Q3 l O K
  |_=>K O
 |none=>K O
def sW(M:Mx)(res:List ResultVar)(Q:SV->u0->Nat->Prop):Post
 | .normal,fr,O,nx=>mq fr O fun O=>Wb M.C fr O res fun vs=>mS M O nx Q vs
 | .ret,fr,O,nx=>mq fr O fun O=>Wb M.C fr O res fun vs=>mS M O nx Q vs
 | .exit _,_,_,_=>uE "exit"
section
variable {M:Mx}{J:Env}{w:World}{O:u0}{nx:Nat}
theorem uz.aN:∀{r:uz} {K:SV->Prop},r.gv K->∃v,(∀O nx,r.ok O nx v O nx)/\K v
 | .val v,K,h=>by simp only[uz.gv,Fu,Yl]at h;exact⟨v,fun _ _=>⟨rfl,rfl,rfl⟩,h⟩
 | .need p k,K,h=>by
   simp only[uz.gv,Nc]at h;obtain⟨v,h1,h2⟩:=uz.aN h.k;exact⟨v,fun O nx=>⟨h.p,h1 O nx⟩,h2⟩
 | .get rs i f,K,h=>by
   simp only[uz.gv,Nd,Jt]at h;obtain⟨row,hr,h⟩:=h.out;obtain⟨v,h1,h2⟩:=uz.aN h;exact⟨v,fun O nx=>⟨row,hr,h1 O nx⟩,h2⟩
 | .new _ _,_,h=>h.out.elim
 | .jK _ _ _,_,h=>h.out.elim
 | .fE _ _ _,_,h=>h.out.elim
 | .take _ _ _ _,_,h=>h.out.elim
 | .jL _ _ _ _,_,h=>h.out.elim
 | .find _ _ _,_,h=>h.out.elim
 | .findD _ _ _,_,h=>h.out.elim
 | .ite _ _ _,_,h=>h.out.elim
 | .fail,_,h=>h.out.elim
def Q4(tmps:Array Value):ResultVar->Sem Value
 | .tmp t=>pure (tmps.getD t undef)
 | .cell c t=>do loadVar t (<-asAddr (tmps.getD c undef))
theorem Nf(fn:Func)(tmps:Array Value):results fn tmps=(do let vs<-fn.results.mapM (Q4 tmps);pure (if h:vs.size=1 then vs[0]else .tuple vs)):=by
 have:(fun x:ResultVar=>match x with|ResultVar.tmp t=>(pure (tmps.getD t undef):Sem Value)|ResultVar.cell c t=>do loadVar t (<-asAddr (tmps.getD c undef)))=Q4 tmps:=by
  funext x;cases x<;>rfl
 rw[<-this]
 rfl
theorem ZaV{P:Program}{w:World}{v:Value}{a:Addr}(h:v= .pointer (some a)):(asAddr v).run P w= .ok a w:=by subst h;rfl
theorem C0(hT:ux M.P M.C.T)(H:vU M J w O nx){a:Act}{fr:Fr}(hf:jm J a fr):∀{res:List ResultVar} {K:List SV->Prop},Wb M.C fr O res K->
 ∃eN vs,K eN/\vX J eN vs/\(res.mapM (Q4 a.tmps)).run M.P w= .ok vs w
 | [],K,h=>⟨[],[],h,by simp[vX],rfl⟩
 | .tmp t::r,K,h=>by
   replace h:Km M.C fr O (.tmp t) r (Wb M.C fr O r) K:=h
   simp only[Km]at h;split at h
   case h_2=>exact h.out.elim
   rename_i v hv;obtain⟨eN,vs,h1,h2,h3⟩:=C0 hT H hf h;refine⟨_,a.tmps.getD t undef::vs,h1,?_,?_⟩;simp only[vX];exact⟨_,_,rfl,hf t v hv,h2⟩;simp only[vO,Sem.run_bind,Q4,Sem.run_pure,Result.andThen_ok,h3]
 | .cell c t::r,K,h=>by
   replace h:Km M.C fr O (.cell c t) r (Wb M.C fr O r) K:=h
   simp only[Km]at h;split at h
   case h_2=>exact h.out.elim
   rename_i p hp;obtain⟨v,hl,h⟩:=uz.aN h;obtain⟨eN,vs,h1,h2,h3⟩:=C0 hT H hf h;obtain⟨_,_,ad,u,h4,h5,h6⟩:=P6 hT H (hf c p hp) (hl O nx);refine⟨_,u::vs,h1,?_,?_⟩;simp only[vX];exact⟨_,_,rfl,h6,h2⟩;simp only[vO,Sem.run_bind,Q4,ZaV h4,Result.andThen_ok,h5,h3,Sem.run_pure]
end
theorem UL{J:Env}:∀{n:Nat} {args:List SV} {vs:List Value} {t:Nat} {sv:SV},vX J args vs->u6 t (XU n args)=some sv->∃v,n<=t/\vs[t-n]?=some v/\Den J sv v
 |n,[],vs,t,sv,_,h=>by simp[XU,u6]at h
 |n,a::args,vs,t,sv,hd,h=>by
  simp only[vX]at hd;obtain⟨u,us,rfl,h1,h2⟩:=hd;simp only[XU,Z6]at h;split at h
  .rename_i e;subst e;injection h with h;subst h
   exact⟨u,zn _,by simp,h1⟩
  .obtain⟨v,h3,h4,h5⟩:=UL h2 h;refine⟨v,by omega,?_,h5⟩;rw[show t-n=(t-(n+1))+1 by omega];simpa using h4
theorem vU.drop{M:Mx}{J:Env}{w w':World}{O:u0}{nx:Nat}(H:vU M J w O nx){j:Nat}{h0:Hp}(hj:u6 j O=some h0){e:qJ}(he:J[j]?=some (some e))(wU:∀k, ¬u5 J w (.loc j) h0 k->w'.heap[k]?=w.heap[k]?)(hsz:w'.heap.size=w.heap.size)
 (ho:w'.os=w.os) (ht:w'.tape=w.tape) (hp:w'.output=w.output) (fB:w.drawn<=w'.drawn):vU M J w' (wh j O) nx:=by
 have fi:u5 J w (.loc j) h0 e.g:=u5.own he
 have back:∀{i h},u6 i (wh j O)=some h->i≠j/\u6 i O=some h:=fun{i h} hi=>by
  have hne:i≠j:=fun e=>by subst e;rw[Ym]at hi;cases hi
  exact⟨hne,by rw[<-Jq j O i hne];exact hi⟩
 have keep:∀{i h},u6 i (wh j O)=some h->∀k,u5 J w (.loc i) h k->w'.heap[k]?=w.heap[k]?:=fun{i h} hi k f=>wU k fun hk=>H.own.2 i j h h0 k (back hi).2 hj (back hi).1 f hk;have bk:∀{i h},u6 i (wh j O)=some h->∀k,u5 J w' (.loc i) h k->u5 J w (.loc i) h k:=fun{i h} hi k f=>H.stands zx (back hi).2 (keep hi) f
 refine⟨H.pre,H.len,⟨fun i h hi=>⟨(H.own.1 i h (back hi).2).1.keep (keep hi),fun k f=>(H.own.1 i h (back hi).2).2 k (bk hi k f)⟩,fun i i' h h' k hi hi' hne f f'=>H.own.2 i i' h h' k (back hi).2 (back hi').2 hne (bk hi k f) (bk hi' k f')⟩,
  ⟨ho.trans H.fr.os,ht.trans H.fr.tape,hp.trans H.fr.output,zK H.fr.drawn fB,by rw[hsz];exact H.fr.size,fun k hk hF=>?_⟩,H.wH⟩
 rw[wU k ?_];exact H.fr.block k hk hF
 .intro hke;rcases(H.own.1 j h0 hj).2 k hke with h|h
  exact hF h;omega
theorem Zfv{f f':List Nat}(h:oU f=oU f'):f=f':=by
 unfold oU at h;simp only[Value.tuple.injEq]at h;exact(List.map_inj_right (fun a b hab=>by simp only[Value.int.injEq,v7]at hab;omega)).1 (zf Array.toList h)
theorem Ng{F:Fence}{P:Program}{fn:Func}{tmps:Array Value}{R:Ending->World->Prop}{ds:List Deferred}:∀{f:List Nat} {w:World},(∀n∈f,w.heap[n]?=some (.deferred (some [])))->f.Nodup->
 (∀w',(∀k,k∉f->w'.heap[k]?=w.heap[k]?)->w'.heap.size=w.heap.size->w'.os=w.os->w'.tape=w.tape->w'.output=w.output->w'.drawn=w.drawn->LeavesInM F 0 P fn tmps R ds .returning w')->LeavesInM F 0 P fn tmps R (sC f++ds) .returning w
 | [],w,_,_,h=>h w (fun _ _=>rfl) rfl rfl rfl rfl rfl
 |n::f,w,hs,hn,h=>by
  have hn':=xb.1 hn;have h6:=hs n (zF ..);refine⟨(fun h=>by cases h), .inl ⟨n,w.putObj n (.deferred none),rfl,run_takeDeferred h6,?_⟩⟩;refine Ng (fun m hm=>?_) hn'.2 fun w' h1 h2 h3 h4 h5 h6=>h w' (fun k hk=>?_) (h2.trans World.putObj_size) h3 h4 h5 h6
  .rw[World.putObj_heap_other (by rintro rfl;exact hn'.1 hm)];exact hs m (zG _ hm)
  .rw[h1 k fun hm=>hk (zG _ hm)];exact World.putObj_heap_other (by rintro rfl;exact hk (zF ..))
theorem Nh{M:Mx}{F:Fence}{P:Program}{fn:Func}{tmps:Array Value}{R:Ending->World->Prop}{J:Env}{nx:Nat}:∀(m:Nat) {l:List SV} {ds:List Deferred} {O:u0} {w:World} {K:u0->Prop},l.length<=m->jh J l ds->vU M J w O nx->Q3 l O K->
 (∀w' O',vU M J w' O' nx->K O'->LeavesInM F 0 P fn tmps R [] .returning w')->LeavesInM F 0 P fn tmps R ds .returning w
 |_,[],ds,O,w,K,_,hd,H,h,hK=>by
  simp only[jh]at hd;subst hd;exact hK w O H h
 |0,_::_,ds,O,w,K,hm,hd,H,h,hK=>by simp at hm
 |m+1,c::l,ds,O,w,K,hm,hd,H,h,hK=>by
  have last:∀{j:Nat} {f:List Nat} {e:qJ} {r:List Deferred} {l':List SV},l'.length<=m->u6 j O=some (.gJ f)->J[j]?=some (some e)->jh J l' r->Q3 l' (wh j O) K->LeavesInM F 0 P fn tmps R (sC f++{target:= .collected e.g,args:= #[]}::r) .returning w:=by
   intro j f e r l' hm' hj h1 h3 h;have hs:=(H.own.1 j _ hj).1;simp only[vV]at hs;obtain⟨e',h4,h5,h6,h7,h8⟩:=hs;rw[show J.get (.loc j)=some (some e)from h1]at h4;injection h4 with h4;injection h4 with h4;subst h4;have h8:=xb.1 h8;refine Ng h7 h8.2 fun w1 g1 g2 g3 g4 g5 g6=>?_;have h6':w1.heap[e.g]?=some (.deferred (some [])):=(g1 _ h8.1).trans h6;refine⟨(fun h=>by cases h), .inl ⟨e.g,w1.putObj e.g (.deferred none),rfl,run_takeDeferred h6',?_⟩⟩;refine Nh m hm' h3 (H.drop hj h1 (fun k hk=>?_) (World.putObj_size.trans g2) g3 g4 g5 (by show w.drawn<=w1.drawn;omega)) h hK;rw[World.putObj_heap_other fun e'=>hk ⟨e,h1, .inl e'.symm⟩];exact g1 k fun hm=>hk ⟨e,h1, .inr hm⟩
  simp only[List.length_cons]at hm;unfold Q3 at h;split at h
  .rename_i j _ _ _;split at h
   case h_2=>exact h.out.elim
   rename_i hj;rw[XG]at h;simp only[jh]at hd;obtain⟨e,r,h1,rfl,h3⟩:=hd;exact last (f:=[]) (by omega) hj h1 h3 h
  .rename_i v;split at h
   case h_2=>exact h.out.elim
   rename_i j _ _ _ l';split at h
   case h_2=>exact h.out.elim
   rename_i f hj;obtain⟨hv,h⟩:=h;rw[XG]at h;simp only[jh]at hd;obtain⟨f',r',h1,rfl,e,r,h2,rfl,h3⟩:=hd;obtain rfl:=Zfv (hv.symm.trans h1);exact last (by simp only[List.length_cons]at hm;omega) hj h2 h3 h
  exact h.out.elim
theorem ZcG{M:Mx}{F:Fence}{P:Program}{fn:Func}{tmps:Array Value}{R:Ending->World->Prop}{J:Env}{nx:Nat}{fr:Fr}{ds:List Deferred}{O:u0}{w:World}{K:u0->Prop}(hd:qU J ds (u6 DS fr))(H:vU M J w O nx)(h:mq fr O K)
 (hK:∀w' O',vU M J w' O' nx->K O'->LeavesInM F 0 P fn tmps R [] .returning w'):LeavesInM F 0 P fn tmps R ds .returning w:=by
 unfold mq at h;split at h
 .rename_i v hv;rw[hv]at hd;split at h
  exact Nh _ (zn _) hd H h hK
  .rename_i hnd
   have:ds=[]:=by
    cases v<;>first|exact hd|exact(hnd _ rfl).elim
   subst this;exact hK w O H h
 .rename_i hv;rw[hv]at hd;have hd:ds=[]:=hd;subst hd;exact hK w O H h
theorem Ni{M:Mx}(hT:ux M.P M.C.T){fn:Func}{res:List ResultVar}(hres:fn.results=res.toArray){K:SV->u0->Nat->Prop}{J:Env}{fr:Fr}{O':u0}{nx:Nat}{a:Act}{w':World}(H':vU M J w' O' nx)(hf:jm J a fr)
 (hr:Wb M.C fr O' res fun vs=>K (mo vs) O' nx):∃v r,(results fn a.tmps).run M.P w'= .ok v w'/\Den J r v/\K r O' nx:=by
 obtain⟨eN,ry,h1,h2,h3⟩:=C0 hT H' hf hr
 have hrun:(results fn a.tmps).run M.P w'= .ok (if h:ry.length=1 then ry[0]'(by omega)else .tuple ⟨ry⟩) w':=by
  have hh:(res.toArray.mapM (Q4 a.tmps)).run M.P w'= .ok ⟨ry⟩ w':=by
   rw[Array.mapM_eq_mapM_toList];simp only[Sem.run_map,h3,Result.andThen_ok]
  rw[Nf,hres];simp only[Sem.run_bind,hh,Result.andThen_ok,Sem.run_pure]
  rfl
 have fR:Den J (mo eN) (if h:ry.length=1 then ry[0]'(by omega)else .tuple ⟨ry⟩):=by
  have hl:=ZL h2
  match eN,h2,hl with
  | [],h2,hl=>
    simp only[vX]at h2;subst h2;simp only[mo,Den,vX];exact⟨[],by simp,rfl⟩
  | [s],h2,hl=>
    simp only[vX]at h2;obtain⟨u,us,rfl,h4,rfl⟩:=h2;simpa[mo]using h4
  |s::s'::r,h2,hl=>
   simp only[List.length_cons]at hl;rw[yP (by omega)];simp only[mo,Den];exact⟨ry,rfl,h2⟩
 exact⟨_,_,hrun,fR,h1⟩
theorem C1{M:Mx}(hT:ux M.P M.C.T){fn:Func}{res:List ResultVar}(hres:fn.results=res.toArray){K:SV->u0->Nat->Prop}{J:Env}{fr:Fr}{O:u0}{nx:Nat}{a:Act}{w:World}(hm:u7 M J fr O nx a w)
 (h:mq fr O fun O=>Wb M.C fr O res fun vs=>K (mo vs) O nx) {R:Ending->World->Prop} (hR:∀w' O' v r,vU M J w' O' nx->Den J r v->K r O' nx->R (.returned v) w'):LeavesInM Fence.wide 0 M.P fn a.tmps R a.defers .returning w:=by
 refine ZcG hm.defers hm.heap h fun w' O' H' hr=>?_;obtain⟨v,r,h1,h2,h3⟩:=Ni hT hres H' hm.frame hr;exact⟨_,h1,hR w' O' _ _ H' h2 h3⟩
theorem ZcH{n:Nat}{args:List SV}{t:Nat}{v:SV}(h:u6 t (XU n args)=some v):n<=t/\t<n+args.length:=by
 induction args generalizing n with
 |nil=>simp[XU,u6]at h
 |cons a l ih=>
  simp only[XU,Z6]at h;split at h
  rename_i e;subst e;simp;have:=ih h;simp only[List.length_cons];omega
theorem Ko{J:Env}{args:List SV}(h:args.length<=DS):qU J [] (u6 DS (XU 0 args)):=by
 cases hv:u6 DS (XU 0 args)with
 |none=>exact rfl
 |some v=>have:=ZcH hv;omega
structure pR(G:World->Prop)(P:Program)(T:qg)(f:FuncId)(k:Nat)(args:List SV)(O S:u0)(Q:SV->u0->Nat->Prop):Prop where
 out:∀(M:Mx) (vs:List Value),M.P=P->M.C.T=T->M.F=Yz M.η0 M.w0 O->M.C.S=qT S->vU M M.η0 M.w0 O k->vX M.η0 args vs->G M.w0->
  j7 M.P f ⟨vs⟩ M.w0 fun v w'=> ∃r O' vZ η',Q r O' vZ/\M.η0<+:η'/\vU M η' w' O' vZ/\Den η' r v
theorem vW.pS{G:World->Prop}{P:Program}{T:qg}{f g:FuncId}{k:Nat}{args:List SV}{O S:u0}{Q:SV->u0->Nat->Prop}{fn:Func}{c:Code}(hT:ux P T)(qf:∀args w,(callFunc f args).run P w= .ok (.enter g args) w)
 (hf:P.funcs[g]?=some fn) (hb:fn.body=some c) (N:Nat) (hN:fn.ntmps=N) (hlen:Nat.ble args.length N=true) (res:List ResultVar) (hres:fn.results=res.toArray)
 (h:∀w0 F η0,η0.length=k->G w0->F=Yz η0 w0 O->run ⟨P,⟨T,N,qT S,none⟩,w0,F,η0,none⟩ c (XU 0 args) O k (sW ⟨P,⟨T,N,qT S,none⟩,w0,F,η0,none⟩ res Q)) (gM:Nat.ble N DS=true:=by rfl):pR G P T f k args O S Q:=by
 refine⟨fun M vs hP dw hF hS H hd hG=> .inl ⟨g,by rw[hP];exact qf _ _,?_⟩⟩;obtain⟨P',⟨T',N',S',aO⟩,w0,F,η0,od⟩:=M;simp only at hP dw hF hS H hd hG⊢;subst hP dw hS;have hk:η0.length=k:=H.len;have H':vU ⟨P',⟨T',N,qT S,none⟩,w0,F,η0,none⟩ η0 w0 O k:=⟨H.pre,H.len,H.own,H.fr,H.wH⟩;have hl:=ZL hd;refine callsIn_wide (n:=0)|>.1 (callsIn_of_wp_marks hf hb trivial ?_)
 have hm:u7 ⟨P',⟨T',N,qT S,none⟩,w0,F,η0,none⟩ η0 (XU 0 args) O k {tmps:=⟨vs⟩++Array.replicate (fn.ntmps-(Array.mk vs).size) undef,defers:=[]} w0:=by
  refine⟨H',?_,zP gM,Ko (zK (zP hlen) (zP gM)),(fun l j h=>by cases h),?_⟩
  .have:=zP hlen;simp only[xT,xV,hN,yc];show vs.length+(N-vs.length)=N
   omega
  .intro t sv ht;obtain⟨v,_,h1,h2⟩:=UL hd ht;have hlt:=(zg.1 h1).1;simp only[Nat.sub_zero]at h1 hlt;rw[y5,ya (by simpa using hlt)];have:(Array.mk vs)[t]?=some v:=by simpa using h1
   rw[this];exact h2
 refine Code.wpIn_mono ?_ (ZX hT c (h w0 F η0 hk hG hF) η0 _ w0 hm)
 have fin:∀{η1:Env} {qh:Fr} {O1:u0} {qp:Nat} {a:Act} {w1:World},u7 ⟨P',⟨T',N,qT S,none⟩,w0,F,η0,none⟩ η1 qh O1 qp a w1->(mq qh O1 fun O1=>Wb ⟨T',N,qT S,none⟩ qh O1 res fun vs=>mS ⟨P',⟨T',N,qT S,none⟩,w0,F,η0,none⟩ O1 qp Q vs)->
  LeavesInM Fence.wide 0 P' fn a.tmps (fun e w'=> ∃v,e= .returned v/\∃r O' vZ η',Q r O' vZ/\η0<+:η'/\vU ⟨P',⟨T',N',qT S,aO⟩,w0,F,η0,od⟩ η' w' O' vZ/\Den η' r v) a.defers .returning w1:=by
  intro η1 qh O1 qp a w1 wz hr;refine C1 (M:=⟨P',⟨T',N,qT S,none⟩,w0,F,η0,none⟩) (K:=fun r O nx=>u9 ⟨P',⟨T',N,qT S,none⟩,w0,F,η0,none⟩ O nx r Q) hT hres wz (by simpa only[DZ]using hr) fun w2 O2 v r H2 hd2 hk=>?_;obtain⟨r',O',vZ,η',h5,h6,h7,h8⟩:=hk.out η1 w2 v H2 hd2;exact⟨v,rfl,r',O',vZ,η',h5,h6,⟨h7.pre,h7.len,h7.own,h7.fr,h7.wH⟩,h8⟩
 intro e a w hq;cases e with
 |normal=>obtain⟨η1,qh,O1,qp,wz,hq⟩:=hq;exact fin wz hq
 |ret=>obtain⟨η1,qh,O1,qp,wz,hq⟩:=hq;exact fin wz hq
 |exit id=>obtain⟨η1,qh,O1,qp,wz,hq⟩:=hq;exact hq.out.elim
 |goto l=>exact hq.elim
 |panic ch=>obtain⟨_,_,hn,_⟩:=hq;cases hn
 |outgrown=>exact hq.elim
theorem vW.enter{P:Program}{T:qg}{f g:FuncId}{k:Nat}{args:List SV}{O S:u0}{Q:SV->u0->Nat->Prop}{fn:Func}{c:Code}(hT:ux P T)(qf:∀args w,(callFunc f args).run P w= .ok (.enter g args) w)
 (hf:P.funcs[g]?=some fn) (hb:fn.body=some c) (N:Nat) (hN:fn.ntmps=N) (hlen:Nat.ble args.length N=true) (res:List ResultVar) (hres:fn.results=res.toArray)
 (h:∀w0 F η0,η0.length=k->run ⟨P,⟨T,N,qT S,none⟩,w0,F,η0,none⟩ c (XU 0 args) O k (sW ⟨P,⟨T,N,qT S,none⟩,w0,F,η0,none⟩ res Q)) (gM:Nat.ble N DS=true:=by rfl):vW P T f k args O S Q:=
 ⟨fun M vs a1 a2 a3 a4 a5 a6=>(vW.pS (G:=fun _=>True) hT qf hf hb N hN hlen res hres (fun w0 F η0 hk _ _=>h w0 F η0 hk) gM).out M vs a1 a2 a3 a4 a5 a6 trivial⟩
theorem IF.tt{J:Type}{A B:J->Prop}{j:J}(h:A j):IF true A B j:=⟨fun _=>h,fun e=>by cases e⟩
theorem IF.ff{J:Type}{A B:J->Prop}{j:J}(h:B j):IF false A B j:=⟨fun e=>(by cases e),fun _=>h⟩
theorem IF.yes{J:Type}{b:Bool}{A B:J->Prop}{j:J}(e:b=true)(h:A j):IF b A B j:=⟨fun _=>h,fun e'=>by rw[e]at e';cases e'⟩
theorem IF.no{J:Type}{b:Bool}{A B:J->Prop}{j:J}(e:b=false)(h:B j):IF b A B j:=⟨fun e'=>(by rw[e]at e';cases e'),fun _=>h⟩
theorem GET.at{rs:List (List SV)}{i:Nat}{K:List SV->Prop}{row:List SV}(h:rs[i]?=some row)(k:K row):GET rs i K:=⟨row,h,k⟩
theorem GET.map{V:Type}{f:V->List SV}{xs:List V}{i:Nat}{K:List SV->Prop}(h:i<xs.length)(k:K (f xs[i])):GET (xs.map f) i K:=⟨f xs[i],by simp[z1 h],k⟩
theorem o4.map{V:Type}[Inhabited V]{f:V->List SV}{xs:List V}{i:Nat}{g:Prop}{K:List SV->Prop}(h:g->i<xs.length)(k:K (f (xs.getD i default))):o4 g (xs.map f) i K:=
 ⟨f (xs.getD i default),fun hg=>by have:=h hg;simp[z1 this,List.getD],k⟩
def Zk(L:List Nat)(nx:Nat)(j:Nat):Nat:=if j<L.length then L.getD j 0 else nx+(j-L.length)
def Ya(ks:List Nat):u0->u0
 | []=>[]
 |(i,h)::r=>match ks.any (Nat.beq i)with|true=>Ya ks r|false=>(i,h)::Ya ks r
def qF(σ:Nat->Nat):u0->u0
 | []=>[]
 |(i,h)::r=>(σ i,uo σ h)::qF σ r
def Zg:u0->List Nat
 | []=>[]
 |(i,_)::r=>i::Zg r
theorem XV{O:u0}{i:Nat}{h:Hp}(hi:u6 i O=some h):i∈Zg O:=by
 induction O with
 |nil=>simp[u6]at hi
 |cons p O ih=>
  obtain⟨j,g⟩:=p;rw[Z6]at hi;split at hi
  rename_i e;subst e;exact zF ..;exact zG _ (ih hi)
theorem WE{ks:List Nat}:∀{O:u0} {i:Nat} {h:Hp},u6 i (Ya ks O)=some h->i∉ks/\u6 i O=some h
 | [],i,h,hi=>by simp[Ya,u6]at hi
 |(j,g)::O,i,h,hi=>by
  unfold Ya at hi
  have pT:ks.any (Nat.beq j)=true<->j∈ks:=by
   rw[xG];exact⟨fun⟨x,hx,hb⟩=>by rw[Zq hb];exact hx,fun h=>⟨j,h,X8 j⟩⟩
  split at hi
  .rename_i hk;obtain⟨h1,h2⟩:=WE hi;refine⟨h1,?_⟩;rw[Z6,z6 ?_];exact h2;intro e;subst e;exact h1 (pT.1 hk)
  .rename_i hk;rw[Z6]at hi;split at hi
   .rename_i e;subst e;injection hi with hi;subst hi;refine⟨fun h=>?_,by rw[Z6,z8 rfl]⟩;rw[pT.2 h]at hk;cases hk
   .rename_i e;obtain⟨h1,h2⟩:=WE hi;exact⟨h1,by rw[Z6,z6 e];exact h2⟩
theorem Nj{σ:Nat->Nat}:∀{O:u0} {i:Nat} {h:Hp},u6 i (qF σ O)=some h->∃j g,u6 j O=some g/\σ j=i/\h=uo σ g
 | [],i,h,hi=>by simp[qF,u6]at hi
 |(j,g)::O,i,h,hi=>by
  simp only[qF]at hi;rw[Z6]at hi;split at hi
  .rename_i e;injection hi with hi;exact⟨j,g,by rw[Z6,z8 rfl],e.symm,hi.symm⟩
  .rename_i e;obtain⟨j1,g1,h1,h2,h3⟩:=Nj hi;have hne:j1≠j:=by intro e';subst e';exact e h2.symm
   exact⟨j1,g1,by rw[Z6,z6 hne];exact h1,h2,h3⟩
theorem XW{V:Type}{xs ys:List (Nat×V)}{i:Nat}{v:V}(h:u6 i (xs++ys)=some v):u6 i xs=some v\/(u6 i xs=none/\u6 i ys=some v):=by
 induction xs with
 |nil=>exact .inr ⟨rfl,h⟩
 |cons p xs ih=>
  obtain⟨j,u⟩:=p;rw[List.cons_append,Z6]at h;rw[Z6];split at h
  rename_i e;rw[z8 e];exact .inl h;rename_i e;rw[z6 e];exact ih h
theorem j7.mono{P:Program}{f:FuncId}{args:Array Value}{w:World}{R R':Value->World->Prop}(h:j7 P f args w R)(hr:∀v w',R v w'->R' v w'):j7 P f args w R':=by
 rcases h with⟨g,h1,h2⟩|⟨v,w',h1,h2⟩
 exact .inl ⟨g,h1,h2.mono fun e w' ⟨v,h3,h4⟩=>⟨v,h3,hr v w' h4⟩⟩;exact .inr ⟨v,w',h1,hr v w' h2⟩
theorem Zfw{S:u0}{b:wG}{h:Hp}(hb:kI b (qT S)=some h):∃j,b= .loc j/\(j,h)∈S:=by
 induction S with
 |nil=>simp[qT,kI]at hb
 |cons p S ih=>
  obtain⟨j,g⟩:=p;simp only[qT,zL,kI]at hb;split at hb
  .rename_i e;injection hb with hb;subst hb;exact⟨j,o6.1 e,zF ..⟩
  .obtain⟨j',h1,h2⟩:=ih hb;exact⟨j',h1,zG _ h2⟩
theorem C2{M:Mx}{args:List SV}{O:u0}{nx k:Nat}{uH:List SV}{Oc Sc:u0}(L:List Nat)
 (hL:L.length=k) (eT:∀i∈L,i<nx) (ha:args=uR (Zk L nx) uH) (hb:ZZ k uH=true)
 (hO:∀p∈Oc,p.1<k/\u6 (Zk L nx p.1) O=some (uo (Zk L nx) p.2)/\Zp k p.2=true)
 (sX:∀j∈Zg Oc,∀j'∈Zg Oc,Zk L nx j=Zk L nx j'->j=j')
 (hS:∀p∈Sc,p.1<k/\Yv M.C O (.loc (Zk L nx p.1))=some (uo (Zk L nx) p.2)/\Zp k p.2=true/\Zk L nx p.1∉ (Zg Oc).map (Zk L nx)) {Y:Env} {w:World} {vs:List Value} (H:vU M Y w O nx) (hd:vX Y args vs):
 ∃Mc:Mx,Mc.P=M.P/\Mc.C.T=M.C.T/\Mc.F=Yz Mc.η0 Mc.w0 Oc/\Mc.C.S=qT Sc/\Mc.w0=w/\vU Mc Mc.η0 Mc.w0 Oc k/\vX Mc.η0 uH vs/\
  ∀r O' vZ η' v w',Mc.η0<+:η'->vU Mc η' w' O' vZ->Den η' r v->∃η2,Y<+:η2/\vU M η2 w' (qF (Zk L nx) O'++Ya ((Zg Oc).map (Zk L nx)) O) (nx+(vZ-k))/\Den η2 (uD (Zk L nx) r) v:=by
 generalize hσ:Zk L nx=σ at*
 have hσlt:∀j,j<k->∃y,L[j]?=some (σ j)/\σ j<nx/\Y[σ j]?=some y:=by
  intro j hj;have hj':j<L.length:=by omega
  have e:σ j=L[j]:=by rw[<-hσ];simp[Zk,hj',List.getD]
  have hlt:σ j<nx:=by rw[e];exact eT _ (zq hj')
  refine⟨Y[σ j]'(by rw[H.len];exact hlt),by rw[e];exact z1 hj',hlt,z1 _⟩
 have hσge:∀j,k<=j->σ j=nx+(j-k):=by
  intro j hj;rw[<-hσ];simp only[Zk,hL];rw[z6 (by omega)]
 obtain⟨ηc,hηc⟩:∃ηc:Env,ηc=L.map (fun i=>(Y[i]?).getD none):=⟨_,rfl⟩;have pU:ηc.length=k:=by rw[hηc];simp[hL]
 have pV:∀j,j<k->ηc[j]?=Y[σ j]?:=by
  intro j hj;obtain⟨y,h1,h2,h3⟩:=hσlt j hj;rw[hηc,z7,h1];simp[h3]
 have fV:fH Y ηc σ k:=fun j x hj hx=>by rw[pV j hj];exact hx
 have hdc:vX ηc uH vs:=vX.uj fV hb (by rw[<-ha];exact hd);have mu:∀j h,u6 j Oc=some h->j<k/\u6 (σ j) O=some (uo σ h)/\Zp k h=true:=fun j h hj=>hO (j,h) (Uk hj);have hto:∀{j:Nat},j<k->∀{h:Hp} {w:World} {n:Nat},u5 ηc w (.loc j) h n->u5 Y w (.loc (σ j)) (uo σ h) n:=fun{j} hj {h w n} f=>f.uD fun x hx=>by rw[<-pV j hj];exact hx
 have hF:∀n,Yz ηc w Oc n->∃j h,u6 j Oc=some h/\u5 Y w (.loc (σ j)) (uo σ h) n/\(M.F n\/M.w0.heap.size<=n):=by
  rintro n ⟨j,h,h1,f⟩;obtain⟨p1,p2,_⟩:=mu j h h1;exact⟨j,h,h1,hto p1 f,(H.own.1 _ _ p2).2 n (hto p1 f)⟩
 have Hc:vU {P:=M.P,C:={M.C with S:=qT Sc},w0:=w,F:=Yz ηc w Oc,η0:=ηc} ηc w Oc k:=by
  refine⟨zx,pU,⟨?_,?_⟩,jw.refl _ _,?_⟩
  .intro j h hj;obtain⟨p1,p2,p3⟩:=mu j h hj;exact⟨(H.own.1 _ _ p2).1.uj fV p1 p3,fun n f=> .inl ⟨j,h,hj,f⟩⟩
  .intro j j' h h' n hj hj' hne f f';obtain⟨p1,p2,_⟩:=mu j h hj;obtain⟨q1,q2,_⟩:=mu j' h' hj';exact H.own.2 _ _ _ _ n p2 q2 (fun hh=>hne (sX j (XV hj) j' (XV hj') hh)) (hto p1 f) (hto q1 f')
  .intro b h jR;cases b with
   |uM g=>
    have hp:JU h=true:=zN.1 M.C.T.dK (g,h) (Uk jR);obtain⟨s1,s2⟩:=H.wH (.uM g) h jR;refine⟨(H.shared (b:= .uM g) jR).plain hp,fun n f=>?_⟩;obtain⟨t1,t2⟩:=s2 g ⟨⟨g,0,0⟩,rfl, .inl rfl⟩;have hw:w.heap[g]?=M.w0.heap[g]?:=H.fr.block g t1 t2
    have f0:u5 M.η0 M.w0 (.uM g) h n:=by
     obtain⟨e,h1,h2⟩:=f;cases h1
     exact⟨⟨g,0,0⟩,rfl,h2.imp id fun h=>h.keep hw⟩
    obtain⟨t1,t2⟩:=s2 n f0;refine⟨yI t1 H.fr.size,fun Kq=>?_⟩;obtain⟨_,_,_,_,q4⟩:=hF _ Kq;rcases q4 with q4|q4
    exact t2 q4;omega
   |loc j0=>
   obtain⟨j,hj0,hm⟩:=Zfw jR;injection hj0 with hj0;subst j0;obtain⟨p1,p2,p3,p4⟩:=hS (j,h) hm;simp only at p1 p2 p3 p4;refine⟨(H.look p2).uj fV p1 p3,fun n f=>?_⟩;have f1:=hto p1 f;refine⟨(H.look p2).uL f1,fun Kq=>?_⟩;obtain⟨j',h',q1,fq,q4⟩:=hF _ Kq;obtain⟨r1,r2,_⟩:=mu j' h' q1;simp only[Yv]at p2;cases ho:u6 (σ j) O with
   |some g=>
    have hne:σ j'≠σ j:=fun hh=>p4 (by rw[<-hh];exact xu (XV q1));rw[ho]at p2;injection p2 with p2;subst p2;exact H.own.2 _ _ _ _ n r2 ho hne fq f1
   |none=>
    rw[ho]at p2;obtain⟨s1,s2⟩:=H.wH (.loc (σ j)) _ p2;obtain⟨x',hx',_⟩:=s1.lt;have f2:u5 M.η0 M.w0 (.loc (σ j)) (uo σ h) n:=(f1.less H.pre hx').keep fun e he=>H.fr.block e.g (s2 e.g (u5.own he)).1 (s2 e.g (u5.own he)).2;obtain⟨t1,t2⟩:=s2 n f2;rcases q4 with q4|q4
    exact t2 q4;omega
 refine⟨{P:=M.P,C:={M.C with S:=qT Sc},w0:=w,F:=Yz ηc w Oc,η0:=ηc},rfl,rfl,rfl,rfl,rfl,Hc,hdc,?_⟩;intro r O' vZ η' v w' hpre H' fB;have hk':k<=vZ:=by rw[<-H'.len,<-pU];exact hpre.length_le
 have sY:oc η' (Y++η'.drop k) σ:=by
  intro i x hx;by_cases hi:i<k
  .obtain⟨y,h1,h2,h3⟩:=hσlt i hi;rw[zu (by rw[H.len];exact h2)]
   have:η'[i]?=ηc[i]?:=by
    obtain⟨t,rfl⟩:=hpre;rw[zu (by rw[pU];exact hi)]
   rw[<-pV i hi,<-this];exact hx
  .rw[hσge i (by omega),zz (by rw[H.len];omega),H.len,ye];rw[show k+(nx+(i-k)-nx)=i by omega];exact hx
 have aP:Y<+:Y++η'.drop k:=zD _ _;have hfr:jw w w' (Yz ηc w Oc):=H'.fr;refine⟨Y++η'.drop k,aP,?_,fB.uD sY⟩
 have hin:∀{i h},u6 i (qF σ O')=some h->∃j g,u6 j O'=some g/\σ j=i/\h=uo σ g/\vV (Y++η'.drop k) w' true (.loc i) h/\∀n,u5 (Y++η'.drop k) w' (.loc i) h n->u5 η' w' (.loc j) g n/\(Yz ηc w Oc n\/w.heap.size<=n):=by
  intro i h hi;obtain⟨j,g,h1,h2,h3⟩:=Nj hi;obtain⟨p1,p2⟩:=H'.own.1 j g h1;obtain⟨x,hx,_⟩:=p1.lt;have hx':(Y++η'.drop k)[σ j]?=some x:=sY j x hx;refine⟨j,g,h1,h2,h3,?_,?_⟩;rw[h3,<-h2];exact p1.uD sY
  .intro n f;rw[h3,<-h2]at f;have f':u5 η' w' (.loc j) g n:=f.uj fun y hy=>by rw[hx']at hy;injection hy with hy;rw[<-hy];exact hx
   exact⟨f',p2 n f'⟩
 have hout:∀{i h},u6 i (Ya ((Zg Oc).map σ) O)=some h->u6 i O=some h/\∀n,u5 Y w (.loc i) h n->n<w.heap.size/\¬Yz ηc w Oc n:=by
  intro i h hi;obtain⟨h1,h2⟩:=WE hi;refine⟨h2,fun n f=>⟨(H.own.1 i h h2).1.uL f,fun Kq=>?_⟩⟩;obtain⟨j',h',q1,fq,q4⟩:=hF _ Kq;obtain⟨r1,r2,_⟩:=mu j' h' q1;have hne:σ j'≠i:=fun hh=>h1 (by rw[<-hh];exact xu (XV q1));exact H.own.2 _ _ _ _ n r2 h2 hne fq f
 have hkeep:∀{i h},u6 i (Ya ((Zg Oc).map σ) O)=some h->∀n,u5 Y w (.loc i) h n->w'.heap[n]?=w.heap[n]?:=fun hi n f=>hfr.block n ((hout hi).2 n f).1 ((hout hi).2 n f).2;have b8:∀{i h},u6 i (Ya ((Zg Oc).map σ) O)=some h->∀n,u5 (Y++η'.drop k) w' (.loc i) h n->u5 Y w (.loc i) h n:=fun hi n f=>H.stands aP (hout hi).1 (hkeep hi) f;refine⟨H.pre.trans aP,?_,⟨?_,?_⟩,H.fr.trans hfr (fun n hn=>let⟨_,_,_,_,h⟩:=hF n hn;h),H.wH⟩;rw[ze,zW,H.len,H'.len]
 .intro i h hi;rcases XW hi with hi|⟨_,hi⟩
  .obtain⟨j,g,h1,h2,h3,h4,h5⟩:=hin hi;refine⟨h4,fun n f=>?_⟩;rcases(h5 n f).2 with hb'|hb'
   obtain⟨_,_,_,_,hh⟩:=hF _ hb';exact hh;exact .inr (zK H.fr.size hb')
  .have h3:=H.own.1 i h (hout hi).1;exact⟨(h3.1.keep (hkeep hi)).mono aP,fun n f=>h3.2 n (b8 hi n f)⟩
 .intro i i' h h' n hi hi' hne f f';rcases XW hi with hi|⟨_,hi⟩<;>rcases XW hi' with hi'|⟨_,hi'⟩
  .obtain⟨j,g,h1,h2,h3,h4,h5⟩:=hin hi;obtain⟨j',g',jo,Q5,FM,h4',h5'⟩:=hin hi';exact H'.own.2 j j' g g' n h1 jo (fun hj=>hne (by rw[<-h2,<-Q5,hj])) (h5 n f).1 (h5' n f').1
  .obtain⟨j,g,h1,h2,h3,h4,h5⟩:=hin hi;obtain⟨h7,h8⟩:=(hout hi').2 n (b8 hi' n f');rcases(h5 n f).2 with hb'|hb'
   exact h8 hb';omega
  .obtain⟨j,g,h1,h2,h3,h4,h5⟩:=hin hi';obtain⟨h7,h8⟩:=(hout hi).2 n (b8 hi n f);rcases(h5 n f').2 with hb'|hb'
   exact h8 hb';omega
  exact H.own.2 i i' h h' n (hout hi).1 (hout hi').1 hne (b8 hi n f) (b8 hi' n f')
theorem CALL.of{M:Mx}{f:FuncId}{args:List SV}{O:u0}{nx:Nat}{K:SV->u0->Nat->Prop}{k:Nat}{uH:List SV}{Oc Sc:u0}{Q:SV->u0->Nat->Prop}(L:List Nat)(sp:vW M.P M.C.T f k uH Oc Sc Q)
 (hL:L.length=k) (eT:∀i∈L,i<nx) (ha:args=uR (Zk L nx) uH) (hb:ZZ k uH=true)
 (hO:∀p∈Oc,p.1<k/\u6 (Zk L nx p.1) O=some (uo (Zk L nx) p.2)/\Zp k p.2=true)
 (sX:∀j∈Zg Oc,∀j'∈Zg Oc,Zk L nx j=Zk L nx j'->j=j')
 (hS:∀p∈Sc,p.1<k/\Yv M.C O (.loc (Zk L nx p.1))=some (uo (Zk L nx) p.2)/\Zp k p.2=true/\Zk L nx p.1∉ (Zg Oc).map (Zk L nx))
 (hK:∀r O' vZ,Q r O' vZ->K (uD (Zk L nx) r) (qF (Zk L nx) O'++Ya ((Zg Oc).map (Zk L nx)) O) (nx+(vZ-k))):CALL M f args O nx K:=by
 refine⟨fun Y w vs H hd=>?_⟩;obtain⟨Mc,h1,h2,h3,h4,h5,h6,h7,h8⟩:=C2 L hL eT ha hb hO sX hS H hd;refine(h1▸h5▸(sp.out Mc vs h1 h2 h3 h4 h6 h7)).mono ?_;rintro v w' ⟨r,O',vZ,η',hq,hpre,H',fB⟩;obtain⟨η2,k1,k2,k3⟩:=h8 r O' vZ η' v w' hpre H' fB;exact⟨_,_,_,η2,k1,k2,k3,hK r O' vZ hq⟩
structure fC(P:Program)(T:qg)(f:FuncId)(k:Nat)(args:List SV)(O S:u0)(Q X:SV->u0->Nat->Prop):Prop where
 out:∀(M:Mx) (vs:List Value),M.P=P->M.C.T=T->M.F=Yz M.η0 M.w0 O->M.C.S=qT S->vU M M.η0 M.w0 O k->vX M.η0 args vs->
  jA M.P f ⟨vs⟩ M.w0 (fun v w'=> ∃r O' vZ η',Q r O' vZ/\M.η0<+:η'/\vU M η' w' O' vZ/\Den η' r v) fun v w'=> ∃r O' vZ η',X r O' vZ/\M.η0<+:η'/\vU M η' w' O' vZ/\Den η' r v
theorem jA.mono{P:Program}{f:FuncId}{args:Array Value}{w:World}{R R' X X':Value->World->Prop}(h:jA P f args w R X)(hr:∀v w',R v w'->R' v w')(hx:∀v w',X v w'->X' v w'):jA P f args w R' X':=by
 rcases h with⟨g,h1,h2⟩|⟨v,w',h1,h2⟩
 exact .inl ⟨g,h1,h2.mono fun e w' h=>h.elim (fun⟨v,h3,h4⟩=> .inl ⟨v,h3,hr v w' h4⟩) fun⟨v,h3,h4⟩=> .inr ⟨v,h3,hx v w' h4⟩⟩;exact .inr ⟨v,w',h1,hr v w' h2⟩
abbrev Mx.pan(M:Mx)(X:SV->u0->Nat->Prop):Mx:={M with px:=some ([],fun v O nx=>u9 M O nx v X)}
theorem fC.enter{P:Program}{T:qg}{f g:FuncId}{k:Nat}{args:List SV}{O S:u0}{Q X:SV->u0->Nat->Prop}{fn:Func}{c:Code}(hT:ux P T)(qf:∀args w,(callFunc f args).run P w= .ok (.enter g args) w)
 (hf:P.funcs[g]?=some fn) (hb:fn.body=some c) (N:Nat) (hN:fn.ntmps=N) (hlen:Nat.ble args.length N=true) (res:List ResultVar) (hres:fn.results=res.toArray)
 (h:∀w0 F η0,η0.length=k->run ⟨P,⟨T,N,qT S,none⟩,w0,F,η0,some ([],fun v O nx=>u9 ⟨P,⟨T,N,qT S,none⟩,w0,F,η0,none⟩ O nx v X)⟩ c (XU 0 args) O k (sW ⟨P,⟨T,N,qT S,none⟩,w0,F,η0,none⟩ res Q)) (gM:Nat.ble N DS=true:=by rfl):fC P T f k args O S Q X:=by
 refine⟨fun M vs hP dw hF hS H hd=> .inl ⟨g,by rw[hP];exact qf _ _,?_⟩⟩;obtain⟨P',⟨T',N',S',aO⟩,w0,F,η0,od⟩:=M;simp only at hP dw hF hS H hd⊢;subst hP dw hS;have hk:η0.length=k:=H.len;obtain⟨px,hpx⟩:∃px,px=some (([]:Fr),fun(v:SV) (O:u0) (nx:Nat)=>u9 ⟨P',⟨T',N,qT S,none⟩,w0,F,η0,none⟩ O nx v X):=⟨_,rfl⟩;have H':vU ⟨P',⟨T',N,qT S,none⟩,w0,F,η0,px⟩ η0 w0 O k:=⟨H.pre,H.len,H.own,H.fr,H.wH⟩;have hl:=ZL hd;refine callsIn_wide (n:=0)|>.1 (callsIn_of_wp_marks hf hb trivial ?_)
 have hm:u7 ⟨P',⟨T',N,qT S,none⟩,w0,F,η0,px⟩ η0 (XU 0 args) O k {tmps:=⟨vs⟩++Array.replicate (fn.ntmps-(Array.mk vs).size) undef,defers:=[]} w0:=by
  refine⟨H',?_,zP gM,Ko (zK (zP hlen) (zP gM)),(fun l j h=>by cases h),?_⟩
  .have:=zP hlen;simp only[xT,xV,hN,yc];show vs.length+(N-vs.length)=N
   omega
  .intro t sv ht;obtain⟨v,_,h1,h2⟩:=UL hd ht;have hlt:=(zg.1 h1).1;simp only[Nat.sub_zero]at h1 hlt;rw[y5,ya (by simpa using hlt)];have:(Array.mk vs)[t]?=some v:=by simpa using h1
   rw[this];exact h2
 have hrun:=h w0 F η0 hk;rw[<-hpx]at hrun;refine Code.wpIn_mono ?_ (ZX hT c hrun η0 _ w0 hm)
 have fin:∀{η1:Env} {qh:Fr} {O1:u0} {qp:Nat} {a:Act} {w1:World},u7 ⟨P',⟨T',N,qT S,none⟩,w0,F,η0,px⟩ η1 qh O1 qp a w1->(mq qh O1 fun O1=>Wb ⟨T',N,qT S,none⟩ qh O1 res fun vs=>mS ⟨P',⟨T',N,qT S,none⟩,w0,F,η0,none⟩ O1 qp Q vs)->
  LeavesInM Fence.wide 0 P' fn a.tmps (fun e w'=>(∃v,e= .returned v/\∃r O' vZ η',Q r O' vZ/\η0<+:η'/\vU ⟨P',⟨T',N',qT S,aO⟩,w0,F,η0,od⟩ η' w' O' vZ/\Den η' r v)\/∃v,e= .panicked [{v,recovered:=false}]/\∃r O' vZ η',X r O' vZ/\η0<+:η'/\vU ⟨P',⟨T',N',qT S,aO⟩,w0,F,η0,od⟩ η' w' O' vZ/\Den η' r v) a.defers .returning w1:=by
  intro η1 qh O1 qp a w1 wz hr;refine C1 (M:=⟨P',⟨T',N,qT S,none⟩,w0,F,η0,px⟩) (K:=fun r O nx=>u9 ⟨P',⟨T',N,qT S,none⟩,w0,F,η0,none⟩ O nx r Q) hT hres wz (by simpa only[DZ]using hr) fun w2 O2 v r H2 hd2 hk=>?_;obtain⟨r',O',vZ,η',h5,h6,h7,h8⟩:=hk.out η1 w2 v ⟨H2.pre,H2.len,H2.own,H2.fr,H2.wH⟩ hd2;exact .inl ⟨v,rfl,r',O',vZ,η',h5,h6,⟨h7.pre,h7.len,h7.own,h7.fr,h7.wH⟩,h8⟩
 intro e a w hq;cases e with
 |normal=>obtain⟨η1,qh,O1,qp,wz,hq⟩:=hq;exact fin wz hq
 |ret=>obtain⟨η1,qh,O1,qp,wz,hq⟩:=hq;exact fin wz hq
 |exit id=>obtain⟨η1,qh,O1,qp,wz,hq⟩:=hq;exact hq.out.elim
 |goto l=>exact hq.elim
 |panic ch=>
  obtain⟨kp,X',h1,η1,O1,qp,v,sv,rfl,wz,kU,hx⟩:=hq;rw[hpx]at h1;injection h1 with h1;injection h1 with h1 h2;subst h1 h2;obtain⟨r',O',vZ,η',h5,h6,h7,h8⟩:=u9.out hx η1 w v ⟨wz.heap.pre,wz.heap.len,wz.heap.own,wz.heap.fr,wz.heap.wH⟩ kU;have hdf:a.defers=[]:=wz.defers;show LeavesInM _ _ _ _ _ _ a.defers _ w
  rw[hdf];exact .inr ⟨v,rfl,r',O',vZ,η',h5,h6,⟨h7.pre,h7.len,h7.own,h7.fr,h7.wH⟩,h8⟩
 |outgrown=>exact hq.elim
theorem qn.calm{M:Mx}{f:FuncId}{args:List SV}{O:u0}{nx:Nat}{KP K:SV->u0->Nat->Prop}(h:CALL M f args O nx K):qn M f args O nx KP K:=by
 refine⟨fun Y w vs H hd=>?_⟩;rcases h.out Y w vs H hd with⟨g,h1,h2⟩|⟨v,w',h1,h2⟩
 exact .inl ⟨g,h1,h2.mono fun e w' h=> .inl h⟩;exact .inr ⟨v,w',h1,h2⟩
theorem qn.of{M:Mx}{f:FuncId}{args:List SV}{O:u0}{nx:Nat}{KP K:SV->u0->Nat->Prop}{k:Nat}{uH:List SV}{Oc Sc:u0}{Q X:SV->u0->Nat->Prop}(L:List Nat)(sp:fC M.P M.C.T f k uH Oc Sc Q X)
 (hL:L.length=k) (eT:∀i∈L,i<nx) (ha:args=uR (Zk L nx) uH) (hb:ZZ k uH=true)
 (hO:∀p∈Oc,p.1<k/\u6 (Zk L nx p.1) O=some (uo (Zk L nx) p.2)/\Zp k p.2=true)
 (sX:∀j∈Zg Oc,∀j'∈Zg Oc,Zk L nx j=Zk L nx j'->j=j')
 (hS:∀p∈Sc,p.1<k/\Yv M.C O (.loc (Zk L nx p.1))=some (uo (Zk L nx) p.2)/\Zp k p.2=true/\Zk L nx p.1∉ (Zg Oc).map (Zk L nx))
 (hK:∀r O' vZ,Q r O' vZ->K (uD (Zk L nx) r) (qF (Zk L nx) O'++Ya ((Zg Oc).map (Zk L nx)) O) (nx+(vZ-k)))
 (hX:∀r O' vZ,X r O' vZ->KP (uD (Zk L nx) r) (qF (Zk L nx) O'++Ya ((Zg Oc).map (Zk L nx)) O) (nx+(vZ-k))):qn M f args O nx KP K:=by
 refine⟨fun Y w vs H hd=>?_⟩;obtain⟨Mc,h1,h2,h3,h4,h5,h6,h7,h8⟩:=C2 L hL eT ha hb hO sX hS H hd;refine(h1▸h5▸(sp.out Mc vs h1 h2 h3 h4 h6 h7)).mono ?_ ?_
 .rintro v w' ⟨r,O',vZ,η',hq,hpre,H',fB⟩;obtain⟨η2,k1,k2,k3⟩:=h8 r O' vZ η' v w' hpre H' fB;exact⟨_,_,_,η2,k1,k2,k3,hK r O' vZ hq⟩
 .rintro v w' ⟨r,O',vZ,η',hq,hpre,H',fB⟩;obtain⟨η2,k1,k2,k3⟩:=h8 r O' vZ η' v w' hpre H' fB;exact⟨_,_,_,η2,k1,k2,k3,hX r O' vZ hq⟩
theorem CALL.val{M:Mx}{f:FuncId}{args:List SV}{O:u0}{nx:Nat}{K:SV->u0->Nat->Prop}{r:SV}(sp:vW M.P M.C.T f 0 args [] [] fun r' O' vZ=>r'=r/\O'=[]/\vZ=0)(hp:YN args=true)(hr:plain r=true)(hK:K r O nx):CALL M f args O nx K:=by
 refine CALL.of [] sp rfl (fun i hi=>by cases hi) (Yg _ hp).symm (ZP 0 hp) (fun p hp=>by cases hp) (fun j hj=>by cases hj) (fun p hp=>by cases hp) ?_;rintro r' O' vZ ⟨rfl,rfl,rfl⟩;rw[Xh _ hr]
 have:Ya ((Zg []).map (Zk [] nx)) O=O:=by
  clear hK sp
  induction O with
  |nil=>rfl
  |cons p O ih=>obtain⟨i,h⟩:=p;simp only[Ya,Zg,yX,List.any_nil]at ih⊢;rw[ih]
 rw[this];simpa[qF]using hK
def wF(r0:SV):SV->u0->Nat->Prop:=fun r O nx=>r=r0/\O=[]/\nx=0
theorem CALL.value{M:Mx}{f:FuncId}{args:List SV}{O:u0}{nx:Nat}{K:SV->u0->Nat->Prop}{r:SV}(sp:vW M.P M.C.T f 0 args [] [] (wF r))(hp:YN args=true)(hr:plain r=true)(hK:K r O nx):CALL M f args O nx K:=CALL.val sp hp hr hK
def oe(C:Cx)(O:u0)(σ:Nat->Nat)(k:Nat):u0->Prop
 | []=>True
 |(i,h)::r=>(Nat.blt i k=true/\Yv C O (.loc (σ i))=some (uo σ h)/\Zp k h=true)/\oe C O σ k r
theorem oe.at{C:Cx}{O:u0}{σ:Nat->Nat}{k:Nat}:∀{S:u0},oe C O σ k S->∀p∈S,p.1<k/\Yv C O (.loc (σ p.1))=some (uo σ p.2)/\Zp k p.2=true
 | [],_,p,hp=>by cases hp
 |(i,h)::r,hs,p,hp=>by
  rcases zI.1 hp with rfl|hp
  exact⟨by simpa[yU]using hs.1.1,hs.1.2⟩;exact oe.at hs.2 p hp
theorem VH:∀O:u0,Ya [] O=O
 | []=>rfl
 |(i,h)::O=>by
  have ih:=VH O;simp only[Ya,List.any_nil]at ih⊢;rw[ih]
theorem CALL.look{M:Mx}{f:FuncId}{args:List SV}{O:u0}{nx:Nat}{K:SV->u0->Nat->Prop}{k:Nat}{uH:List SV}{Sc:u0}{Q:SV->u0->Nat->Prop}(L:List Nat)(sp:vW M.P M.C.T f k uH [] Sc Q)
 (hL:L.length=k) (eT:L.all (fun i=>Nat.blt i nx)=true) (ha:args=uR (Zk L nx) uH) (hb:ZZ k uH=true) (hS:oe M.C O (Zk L nx) k Sc)
 (hK:∀r O' vZ,Q r O' vZ->K (uD (Zk L nx) r) (qF (Zk L nx) O'++O) (nx+(vZ-k))):CALL M f args O nx K:=by
 refine CALL.of L sp hL (fun i hi=>by have:=zN.1 eT i hi;simpa[yU]using this) ha hb (fun p hp=>by cases hp) (fun j hj=>by cases hj) (fun p hp=>?_) (fun r O' vZ h=>?_)
 .obtain⟨h1,h2,h3⟩:=hS.at p hp;exact⟨h1,h2,h3,fun h=>by cases h⟩
 .have:=hK r O' vZ h;simpa[Zg,VH]using this
def qd(k:Nat)(r0:SV):SV->u0->Nat->Prop:=fun r O nx=>r=r0/\O=[]/\nx=k
theorem CALL.looks{M:Mx}{f:FuncId}{args:List SV}{O:u0}{nx:Nat}{K:SV->u0->Nat->Prop}{k:Nat}{uH:List SV}{Sc:u0}{r:SV}(L:List Nat)(sp:vW M.P M.C.T f k uH [] Sc (qd k r))
 (hL:L.length=k) (eT:L.all (fun i=>Nat.blt i nx)=true) (ha:args=uR (Zk L nx) uH) (hb:ZZ k uH=true) (hS:oe M.C O (Zk L nx) k Sc) (hK:K (uD (Zk L nx) r) O nx):CALL M f args O nx K:=by
 refine CALL.look L sp hL eT ha hb hS ?_;rintro r' O' vZ ⟨rfl,rfl,rfl⟩;simpa[qF]using hK
theorem vW.says{P:Program}{T:qg}{f:FuncId}{args:List SV}{r:SV}(h:∀Y w vs,vX Y args vs->∃v,(callFunc f ⟨vs⟩).run P w= .ok (.value v) w/\Den Y r v):vW P T f 0 args [] [] (wF r):=by
 refine⟨fun M vs hP hT hF hS H hd=>?_⟩;obtain⟨v,h1,h2⟩:=h M.η0 M.w0 vs hd;exact .inr ⟨v,M.w0,by rw[hP];exact h1,r,[],0,M.η0,⟨rfl,rfl,rfl⟩,zx,⟨H.pre,H.len,⟨fun i h hi=>by simp[u6]at hi,fun i j h h' n hi=>by simp[u6]at hi⟩,H.fr,H.wH⟩,h2⟩
theorem u9.val{M:Mx}{O:u0}{nx k:Nat}{r:SV}{Q:SV->u0->Nat->Prop}(hk:M.η0.length=k)(hp:plain r=true)(hQ:Q r [] k):u9 M O nx r Q:=by
 refine⟨fun Y w v H hd=>⟨r,[],k,M.η0,hQ,zx,⟨zx,hk,⟨fun i h hi=>by simp[u6]at hi,fun i j h h' n hi=>by simp[u6]at hi⟩,H.fr,H.wH⟩,?_⟩⟩;have hb:fH Y M.η0 (fun i=>i) 0:=fun i x hi=>by omega
 exact Den.uj hb (Xs 0 hp) (by rw[Xh _ hp];exact hd)
theorem u9.value{M:Mx}{O:u0}{nx:Nat}{r r0:SV}(hk:M.η0.length=0)(hp:plain r=true)(hQ:r=r0):u9 M O nx r (wF r0):=u9.val hk hp ⟨hQ,rfl,rfl⟩
theorem u9.uh{M:Mx}{O:u0}{nx k:Nat}{r r0:SV}(hk:M.η0.length=k)(hp:plain r=true)(hQ:r=r0):u9 M O nx r (qd k r0):=u9.val hk hp ⟨hQ,rfl,rfl⟩
def YE(k:Nat)(Z:List Nat)(j:Nat):Nat:=if j<k then j else Z.getD (j-k) 0
theorem vU.names{M:Mx}{Y:Env}{w:World}{O:u0}{nx k:Nat}(H:vU M Y w O nx)(hk:M.η0.length=k)(Z:List Nat){Oc:u0}(hτ:∀i∈Z,i<nx)
 (hO:∀p∈Oc,p.1<k+Z.length/\u6 (YE k Z p.1) O=some (uo (YE k Z) p.2)/\Zp (k+Z.length) p.2=true)
 (hn:∀j∈Zg Oc,∀j'∈Zg Oc,YE k Z j=YE k Z j'->j=j'):∃η',M.η0<+:η'/\vU M η' w Oc (k+Z.length)/\fH Y η' (YE k Z) (k+Z.length):=by
 generalize hσ:YE k Z=σ at*;obtain⟨η',hη'⟩:∃η':Env,η'=M.η0++Z.map (fun i=>(Y[i]?).getD none):=⟨_,rfl⟩
 have kJ:∀j,j<k+Z.length->η'[j]?=Y[σ j]?:=by
  intro j hj;rw[hη',<-hσ];by_cases h:j<k
  .rw[zu (by omega)];simp only[YE,z8 h];obtain⟨t,ht⟩:=H.pre;rw[<-ht,zu (by omega)]
  .rw[zz (by omega),hk,z7];have hlt:j-k<Z.length:=by omega
   simp only[YE,z6 h,z1 hlt,Option.map_some,List.getD,Option.getD_some];have:=hτ _ (zq hlt);rw[z1 (by rw[H.len];exact this)]
   rfl
 have fV:fH Y η' σ (k+Z.length):=fun j x hj hx=>by rw[kJ j hj];exact hx
 have mu:∀j h,u6 j Oc=some h->j<k+Z.length/\u6 (σ j) O=some (uo σ h)/\Zp (k+Z.length) h=true:=fun j h hj=>hO (j,h) (Uk hj);refine⟨η',by rw[hη'];exact zD _ _,⟨by rw[hη'];exact zD _ _,by rw[hη'];simp[hk],⟨?_,?_⟩,H.fr,H.wH⟩,fV⟩
 .intro j h hj;obtain⟨p1,p2,p3⟩:=mu j h hj;exact⟨(H.own.1 _ _ p2).1.uj fV p1 p3,fun n f=>(H.own.1 _ _ p2).2 n (f.uD fun x hx=>by rw[<-kJ j p1];exact hx)⟩
 .intro j j' h h' n hj hj' hne f f';obtain⟨p1,p2,_⟩:=mu j h hj;obtain⟨q1,q2,_⟩:=mu j' h' hj';exact H.own.2 _ _ _ _ n p2 q2 (fun hh=>hne (hn j (XV hj) j' (XV hj') hh)) (f.uD fun x hx=>by rw[<-kJ j p1];exact hx) (f'.uD fun x hx=>by rw[<-kJ j' q1];exact hx)
theorem u9.keep{M:Mx}{O:u0}{nx k:Nat}{r:SV}{Q:SV->u0->Nat->Prop}(hk:M.η0.length=k)(Z:List Nat){rc:SV}{Oc:u0}(hτ:∀i∈Z,i<nx)(hr:r=uD (YE k Z) rc)(hb:Y2 (k+Z.length) rc=true)
 (hO:∀p∈Oc,p.1<k+Z.length/\u6 (YE k Z p.1) O=some (uo (YE k Z) p.2)/\Zp (k+Z.length) p.2=true)
 (hn:∀j∈Zg Oc,∀j'∈Zg Oc,YE k Z j=YE k Z j'->j=j') (hQ:Q rc Oc (k+Z.length)):u9 M O nx r Q:=by
 refine⟨fun Y w v H hd=>?_⟩;obtain⟨η',h1,h2,h3⟩:=H.names hk Z hτ hO hn;exact⟨rc,Oc,k+Z.length,η',hQ,h1,h2,Den.uj h3 hb (by rw[<-hr];exact hd)⟩
def dx(σ:Nat->Nat)(m:Nat)(fr:Fr):Fr->Prop
 | []=>True
 |(t,v)::r=>(u6 t fr=some (uD σ v)/\Y2 m v=true)/\dx σ m fr r
theorem dx.at{σ:Nat->Nat}{m:Nat}{fr:Fr}:∀{fr':Fr},dx σ m fr fr'->∀t v,u6 t fr'=some v->u6 t fr=some (uD σ v)/\Y2 m v=true
 | [],_,t,v,h=>by simp[u6]at h
 |(d,u)::r,hs,t,v,h=>by
  rw[Z6]at h;split at h
  rename_i e;subst e;injection h with h;subst h;exact hs.1
  exact dx.at hs.2 t v h
def og(σ:Nat->Nat)(m:Nat)(O:u0):u0->Prop
 | []=>True
 |(i,h)::r=>(Nat.blt i m=true/\u6 (σ i) O=some (uo σ h)/\Zp m h=true)/\og σ m O r
theorem og.at{σ:Nat->Nat}{m:Nat}{O:u0}:∀{O':u0},og σ m O O'->∀p∈O',p.1<m/\u6 (σ p.1) O=some (uo σ p.2)/\Zp m p.2=true
 | [],_,p,hp=>by cases hp
 |(i,h)::r,hs,p,hp=>by
  rcases zI.1 hp with rfl|hp
  exact⟨by simpa[yU]using hs.1.1,hs.1.2⟩;exact og.at hs.2 p hp
def sZ:Option SV->Bool
 |some (.jQ _)=>true
 |_=>false
def rz(fr fr':Fr):Bool:=match sZ (u6 DS fr)with
 |true=>sZ (u6 DS fr')
 |false=>!(sZ (u6 DS fr'))
theorem qU.no{Y:Env}{ds:List Deferred}{v:Option SV}(h:sZ v=false):qU Y ds v<->ds=[]:=by
 cases v with
 |none=>exact xY
 |some v=>cases v<;>first|exact xY|cases h
theorem qU.goes{Y η':Env}{σ:Nat->Nat}{m:Nat}{fr fr':Fr}{ds:List Deferred}(hb:fH Y η' σ m)(hd:rz fr fr'=true)(hf:∀v,u6 DS fr'=some v->u6 DS fr=some (uD σ v)/\Y2 m v=true)(h:qU Y ds (u6 DS fr)):qU η' ds (u6 DS fr'):=by
 unfold rz at hd;split at hd
 .cases hv:u6 DS fr' with
  |none=>rw[hv]at hd;cases hd
  |some v=>
   rw[hv]at hd;cases v with
   |jQ l=>
    obtain⟨h1,h2⟩:=hf _ hv;rw[h1]at h;simp only[qU,uD]at h⊢;exact jh.uj hb (by simpa only[Y2]using h2) h
   |_=>cases hd
 .rename_i h1;rw[qU.no h1]at h;rw[qU.no (by simpa using hd)];exact h
def rA(ro:Option (Nat×Nat))(σ:Nat->Nat)(m:Nat):Bool:=match ro with
 |none=>true
 |some p=>Nat.blt p.2 m&&Nat.beq (σ p.2) p.2
theorem Nk{ro:Option (Nat×Nat)}{σ:Nat->Nat}{m l j:Nat}(h:rA ro σ m=true)(hr:ro=some (l,j)):j<m/\σ j=j:=by
 subst hr;simp only[rA,zk,yU]at h;exact⟨h.1,Zq h.2⟩
theorem vY.keep{M:Mx}{fr:Fr}{O:u0}{nx k:Nat}{fr':Fr}{O':u0}(hk:M.η0.length=k)(Z:List Nat)(hτ:Z.all (fun i=>Nat.blt i nx)=true)(hf:dx (YE k Z) (k+Z.length) fr fr')(hO:og (YE k Z) (k+Z.length) O O')
 (hn:(Zg O').all (fun j=>(Zg O').all fun j'=>!(Nat.beq (YE k Z j) (YE k Z j'))||Nat.beq j j')=true) (hd:rz fr fr'=true:=by rfl) (hro:rA M.C.ro (YE k Z) (k+Z.length)=true:=by rfl):vY M fr O nx fr' O' (k+Z.length):=by
 refine⟨fun Y a w hm=>?_⟩
 obtain⟨η',h1,h2,h3⟩:=hm.heap.names hk Z (fun i hi=>by have:=zN.1 hτ i hi;simpa[yU]using this) hO.at (fun j hj j' hj' he=>by
  have:=zN.1 (zN.1 hn j hj) j' hj';simp only[he,X8,xP,xQ]at this
  exact Zq this)
 refine⟨η',h2,hm.size,hm.fN,hm.defers.goes h3 hd (fun v hv=>hf.at DS v hv),fun l j hj=>?_,fun t v ht=>?_⟩
 .obtain⟨h4,h5⟩:=Nk hro hj;obtain⟨e,h6,h7⟩:=hm.ro l j hj;exact⟨e,h3 j _ h4 (by rw[h5];exact h6),h7⟩
 obtain⟨h4,h5⟩:=hf.at t v ht;exact Den.uj h3 h5 (hm.frame t _ h4)
theorem vW.calls{P:Program}{T:qg}{g:FuncId}{args:List SV}{r:SV}{vs:List Value}{w:World}(sp:vW P T g 0 args [] [] (wF r))(eg:∀args w,(callFunc g args).run P w= .ok (.enter g args) w)(hd:vX [] args vs)
 (hg:∀g h,u6 g T.qS=some h->vV [] w false (.uM g) h/\g<w.heap.size):
 Calls P g ⟨vs⟩ w fun e w'=> ∃v,e= .returned v/\Den [] r v/\jw w w' fun _=>False:=by
 have H:vU ⟨P,⟨T,0,[],none⟩,w,fun _=>False,[],none⟩ [] w [] 0:=⟨zx,rfl,⟨fun i h hi=>by simp[u6]at hi,fun i j h h' n hi=>by simp[u6]at hi⟩,jw.refl _ _,fun b h hb=>by
  cases b with
  |loc i=>simp[bM,kI]at hb
  |uM g=>
   obtain⟨h1,h2⟩:=hg g h hb
   exact⟨h1,fun k f=>⟨h1.uL f,fun h=>h⟩⟩⟩
 have hF:(fun _=>False:Nat->Prop)=Yz [] w []:=by
  funext n;simp[Yz,u6]
 rcases sp.out ⟨P,⟨T,0,[],none⟩,w,fun _=>False,[],none⟩ vs rfl rfl hF rfl H hd with⟨g',h1,h2⟩|⟨v,w',h1,_⟩
 .rw[eg]at h1;injection h1 with h1 _;injection h1 with h1 _;subst h1;refine h2.mono fun e w' he=>?_;obtain⟨v,rfl,r',O',vZ,η',⟨rfl,rfl,rfl⟩,_,h4,h5⟩:=he;have:η'=[]:=zO.1 h4.len;subst this;exact⟨v,rfl,h5,h4.fr⟩
 rw[eg]at h1;cases h1
section
variable {σ:Nat->Nat}
theorem FW(h:∀j,σ j=j):∀b,kj σ b=b
 | .uM g=>rfl
 | .loc i=>by simp only[kj,h]
mutual
theorem tr(h:∀j,σ j=j):∀v,uD σ v=v
 | .bool _=>rfl
 | .int _ _=>rfl
 | .str _=>rfl
 | .val _=>rfl
 | .any=>rfl
 | .nb _=>rfl
 | .jQ l=>by simp only[uD,Un h l]
 | .yf b=>by simp only[uD,FW h]
 | .mp b=>by simp only[uD,FW h]
 | .ptr b _ _ _=>by simp only[uD,FW h]
 | .sl b _ _ _ _=>by simp only[uD,FW h]
 | .agg cs=>by simp only[uD,Un h cs]
 | .arr _ rs=>by simp only[uD,KD h rs]
 | .uI vs=>by simp only[uD,Un h vs]
 | .gR _ v=>by simp only[uD,tr h v]
 | .fn _ a b=>by simp only[uD,Un h a,Un h b]
theorem Un(h:∀j,σ j=j):∀vs,uR σ vs=vs
 | []=>rfl
 |c::cs=>by simp only[uR,tr h c,Un h cs]
theorem KD(h:∀j,σ j=j):∀vs,Xq σ vs=vs
 | []=>rfl
 |c::cs=>by simp only[Xq,Un h c,KD h cs]
end
theorem NL(h:∀j,σ j=j):∀fr,jD σ fr=fr
 | []=>rfl
 |(t,v)::r=>by simp only[jD,tr h v,NL h r]
theorem Zi5(h:∀j,σ j=j):∀c,gW σ c=c
 | .v s=>by simp only[gW,tr h]
 | .uC _ rs=>by simp only[gW,KD h]
theorem NM(h:∀j,σ j=j):∀r,aM σ r=r
 | []=>rfl
 |c::cs=>by simp only[aM,Zi5 h,NM h cs]
theorem NN(h:∀j,σ j=j):∀r,Xz σ r=r
 | []=>rfl
 |c::cs=>by simp only[Xz,NM h,NN h cs]
theorem Zi6(h:∀j,σ j=j):∀hp,uo σ hp=hp
 | .deep _ _ _=>by simp only[uo,NN h]
 | .box _=>by simp only[uo,Un h]
 | .rows _ _=>by simp only[uo,KD h]
 | .wI _ _=>rfl
 | .cI _=>rfl
 | .kH _ _ _=>rfl
 | .gJ _=>rfl
 | .lp _ _ fr=>by simp only[uo,NL h]
 | .mp _=>by simp only[uo,KD h]
end
def dz(m:Nat)(fr:Fr):Fr->Prop
 | []=>True
 |(t,v)::r=>(u6 t fr=some v/\Y2 m v=true)/\dz m fr r
def ov(m:Nat)(O:u0):u0->Prop
 | []=>True
 |(i,h)::r=>(u6 i O=some h/\Nat.blt i m=true/\Zp m h=true)/\ov m O r
theorem dz.at{m:Nat}{fr:Fr}:∀{fr':Fr},dz m fr fr'->∀t v,u6 t fr'=some v->u6 t fr=some v/\Y2 m v=true
 | [],_,t,v,h=>by simp[u6]at h
 |(d,u)::r,hs,t,v,h=>by
  rw[Z6]at h;split at h
  rename_i e;subst e;injection h with h;subst h;exact hs.1
  exact dz.at hs.2 t v h
theorem ov.at{m:Nat}{O:u0}:∀{O':u0},ov m O O'->∀i h,u6 i O'=some h->u6 i O=some h/\i<m/\Zp m h=true
 | [],_,t,v,h=>by simp[u6]at h
 |(d,u)::r,hs,t,v,h=>by
  rw[Z6]at h;split at h
  .rename_i e;subst e;injection h with h;subst h
   exact⟨hs.1.1,by simpa[yU]using hs.1.2.1,hs.1.2.2⟩
  exact ov.at hs.2 t v h
variable {M:Mx}{fr fr':Fr}{O O':u0}{nx:Nat}
theorem vY.cut{k:Nat}(m:Nat)(hk:M.η0.length=k)(hkm:Nat.ble k m=true)(hmn:Nat.ble m nx=true)(hf:dz m fr fr')(hO:ov m O O')(hd:rz fr fr'=true:=by rfl)(hro:rA M.C.ro id m=true:=by rfl):vY M fr O nx fr' O' m:=by
 have hkm:=zP hkm;have hmn:=zP hmn;refine⟨fun Y a w hm=>?_⟩;have hid:∀j:Nat,id j=j:=fun _=>rfl
 have fV:fH Y (Y.take m) id m:=fun i x hi hx=>by
  simp only[id]at hx;rw[y4,z8 hi];exact hx
 have hlen:(Y.take m).length=m:=by rw[zA,hm.heap.len];omega
 refine⟨Y.take m,⟨?_,hlen,⟨fun i h hi=>?_,fun i j h h' n hi hj hij f f'=>?_⟩,hm.heap.fr,hm.heap.wH⟩,hm.size,hm.fN,hm.defers.goes fV hd (fun v hv=>by rw[tr hid];exact hf.at DS v hv),fun l j hj=>?_,fun t v ht=>?_⟩
 .obtain⟨t,ht⟩:=hm.heap.pre;refine⟨t.take (m-k),?_⟩;rw[<-ht,List.take_append,hk,zo (l:=M.η0) (by omega)]
 .obtain⟨h1,h2,h3⟩:=hO.at i h hi;refine⟨vV.uj fV h2 h3 ?_,fun n f=>(hm.heap.own.1 i h h1).2 n (f.mono (List.take_prefix m Y))⟩;rw[Zi6 hid];exact(hm.heap.own.1 i h h1).1
 .obtain⟨h1,h2,h3⟩:=hO.at i h hi;obtain⟨h4,h5,h6⟩:=hO.at j h' hj;exact hm.heap.own.2 i j h h' n h1 h4 hij (f.mono (List.take_prefix m Y)) (f'.mono (List.take_prefix m Y))
 .obtain⟨h4,_⟩:=Nk hro hj;obtain⟨e,h6,h7⟩:=hm.ro l j hj;exact⟨e,fV j _ h4 h6,h7⟩
 .obtain⟨h1,h2⟩:=hf.at t v ht;exact Den.uj fV h2 (by rw[tr hid];exact hm.frame t v h1)
def n4(fr:Fr):Fr->Prop
 | []=>True
 |(t,v)::r=>match u6 t fr with
  |some u=>u=v/\n4 fr r
  |none=>False
def KE(O:u0):u0->Prop
 | []=>True
 |(i,h)::r=>match u6 i O with
  |some g=>g=h/\KE O r
  |none=>False
def VL(m:Nat):Fr->Bool
 | []=>true
 |(_,v)::r=>Y2 m v&&VL m r
def Zu(m:Nat):u0->Bool
 | []=>true
 |(i,h)::r=>Nat.blt i m&& (Zp m h&&Zu m r)
theorem NP{m:Nat}{fr:Fr}:∀{fr':Fr},n4 fr fr'->VL m fr'=true->dz m fr fr'
 | [],_,_=>trivial
 |(t,v)::r,h,b=>by
  simp only[n4]at h;simp only[VL,zk]at b;split at h
  .rename_i u hu;obtain⟨rfl,h⟩:=h;exact⟨⟨hu,b.1⟩,NP h b.2⟩
  exact h.elim
theorem NQ{m:Nat}{O:u0}:∀{O':u0},KE O O'->Zu m O'=true->ov m O O'
 | [],_,_=>trivial
 |(t,v)::r,h,b=>by
  simp only[KE]at h;simp only[Zu,zk]at b;split at h
  .rename_i u hu;obtain⟨rfl,h⟩:=h;exact⟨⟨hu,b.1,b.2.1⟩,NQ h b.2.2⟩
  exact h.elim
theorem vY.uA{k m:Nat}(hk:M.η0.length=k)(hkm:Nat.ble k m=true)(hmn:Nat.ble m nx=true)(tu:VL m fr'=true)(tv:Zu m O'=true)(hf:n4 fr fr')(hO:KE O O')(hd:rz fr fr'=true:=by rfl)(hro:rA M.C.ro id m=true:=by rfl):vY M fr O nx fr' O' m:=
 vY.cut m hk hkm hmn (NP hf tu) (NQ hO tv) hd hro
theorem vY.trans{fK:Fr}{O2:u0}{n1 n2:Nat}(h:vY M fr O nx fr' O' n1)(k:vY M fr' O' n1 fK O2 n2):vY M fr O nx fK O2 n2:=
 ⟨fun Y a w hm=>let⟨η1,h1⟩:=h.out Y a w hm;k.out η1 a w h1⟩
theorem vY.nil(t es:Nat)(h0:u6 t fr=some (.val (.slice none 0 0))):vY M fr O nx ((t, .sl (.loc nx) 0 es 0 none)::fr) ((nx, .rows es [])::O) (nx+1):=by
 refine⟨fun Y a w hm=>?_⟩;have hpre:Y<+:Y++ [none]:=zD _ _;have hnew:(Y++ [none])[nx]?=some none:=by rw[zz (by rw[hm.heap.len];omega),hm.heap.len];simp
 refine⟨Y++ [none],hm.heap.push none (fun _ _=>rfl) (zn _) rfl rfl rfl (zn _) (.inl ⟨hnew,rfl⟩) (fun k f=>(u5.none (b:= .loc nx) hnew f).elim) (fun k f=>(u5.none (b:= .loc nx) hnew f).elim),hm.size,hm.fN,?_,VD hpre hm.ro,fun u v hu=>?_⟩
 .have hdf:=hm.defers.mono hpre;rw[Z6];split
  .rename_i e;rw[e,h0,qU.no rfl]at hdf;rw[qU.no rfl];exact hdf
  exact hdf
 .rw[Z6]at hu;split at hu
  .rename_i e;subst e;injection hu with hu;subst hu
   have:=hm.frame u _ h0;simp only[Den]at this⊢;exact .inl ⟨hnew,this.1,trivial⟩
  exact Den.mono hpre (hm.frame u v hu)
theorem ua.goes{body:Code}{Q:Post}{n1:Nat}(h:vY M fr O nx fr' O' n1)(k:ua M body fr' O' n1 Q):ua M body fr O nx Q:=
 ⟨fun Y a w hm=>let⟨η1,h1⟩:=h.out Y a w hm;k.out η1 a w h1⟩
theorem ua.nil{body:Code}{Q:Post}(t es:Nat)(h0:u6 t fr=some (.val (.slice none 0 0)))(k:ua M body ((t, .sl (.loc nx) 0 es 0 none)::fr) ((nx, .rows es [])::O) (nx+1) Q):ua M body fr O nx Q:=ua.goes (vY.nil t es h0) k
theorem u9.rows{k:Nat}{r:SV}{Q:SV->u0->Nat->Prop}(hk:M.η0.length=k)(i es len:Nat){rs:List (List SV)}(hr:r= .sl (.loc i) 0 es len none)(hO:u6 i O=some (.rows es rs))(hi:Nat.blt i nx=true)(hp:Zj rs=true)
 (hQ:Q (.sl (.loc k) 0 es len none) [(k, .rows es rs)] (k+1)):u9 M O nx r Q:=by
 have hi:i<nx:=by simpa[yU]using hi
 have hf:YE k [i] k=i:=by simp[YE]
 refine u9.keep hk [i] (rc:= .sl (.loc k) 0 es len none) (Oc:=[(k, .rows es rs)]) (fun j hj=>by simp at hj;omega) (by rw[hr];simp only[uD,kj,hf]) (by simp[Y2,mP,yU]) ?_ ?_ hQ
 .intro p hp';simp only[zJ]at hp';subst hp';refine⟨by simp,?_,by simp only[Zp,Zc _ hp]⟩;simp only[uo,hf,ZO _ hp,hO]
 .intro j hj j' hj' _;simp[Zg]at hj hj';omega
def ZfD(k:Nat)(l:List UInt8):SV->u0->Nat->Prop:=fun r O nx=>r= .sl (.loc k) 0 1 l.length none/\O=[(k, .rows 1 (l.map bytesRow))]/\nx=k+1
theorem UO(l:List UInt8):Zj (l.map bytesRow)=true:=ZN _ (fun _=>rfl) l
theorem NR{L:List Nat}{nx k:Nat}(hL:L.length=k):Zk L nx k=nx:=by simp[Zk,hL]
theorem CALL.bytes{f:FuncId}{args:List SV}{K:SV->u0->Nat->Prop}{l:List UInt8}(sp:vW M.P M.C.T f 0 args [] [] (ZfD 0 l))(hp:YN args=true)
 (hK:K (.sl (.loc nx) 0 1 l.length none) ((nx, .rows 1 (l.map bytesRow))::O) (nx+1)):CALL M f args O nx K:=by
 refine CALL.of [] sp rfl (fun i hi=>by cases hi) (Yg _ hp).symm (ZP 0 hp) (fun p hp=>by cases hp) (fun j hj=>by cases hj) (fun p hp=>by cases hp) ?_;rintro r' O' vZ ⟨rfl,rfl,rfl⟩;simp only[uD,kj,qF,uo,ZO _ (UO l),NR (L:=[]) (nx:=nx) (k:=0) rfl,Zg,yX,VH,List.cons_append,List.nil_append];exact hK
theorem NS(xs:List UInt8)(r n:Nat):((xs.map bytesRow).drop r).take n=((xs.drop r).take n).map bytesRow:=by rw[List.map_take,List.map_drop]
theorem ZkZ(xs:List UInt8):(xs.map bytesRow).map QS=xs:=PO xs
theorem ZfE{xs:List UInt8}{r n:Nat}(h:r+n<=xs.length):(((xs.map bytesRow).drop r).take n).length=n/\∃l:List UInt8,((xs.map bytesRow).drop r).take n=l.map bytesRow:=
 ⟨by simp;omega,_,NS xs r n⟩
theorem Zi7(xs:List UInt8):(((xs.map bytesRow).drop 0).take xs.length).map QS=xs:=by rw[NS,ZkZ];simp
theorem CALL.gE{f:FuncId}{args uH:List SV}{K:SV->u0->Nat->Prop}{es:Nat}{rs:List (List SV)}{r:SV}(i:Nat)(sp:vW M.P M.C.T f 1 uH [] [(0, .rows es rs)] (qd 1 r))
 (ha:args=uR (Zk [i] nx) uH) (hi:Nat.blt i nx=true) (hb:ZZ 1 uH=true) (hO:Yv M.C O (.loc i)=some (.rows es rs)) (hp:Zj rs=true) (hr:plain r=true) (hK:K r O nx):CALL M f args O nx K:=by
 refine CALL.looks [i] sp rfl (by simp[hi]) ha hb ⟨⟨rfl,?_,Jc _ hp⟩,trivial⟩ ?_
 .rw[show uo (Zk [i] nx) (.rows es rs)= .rows es rs from Ze _ hp];exact hO
 rw[Xh _ hr];exact hK
def Q9:List Nat->Fr->(Fr->Prop)->Prop
 | [],fr,K=>match u6 DS fr with
   |some v=>K [(DS,v)]
   |none=>K []
 |t::ts,fr,K=>match u6 t fr with
  |some v=>Q9 ts fr fun r=>K ((t,v)::r)
  |none=>uE "kept"
def dW:Fr->Fr->(Fr->Prop)->Prop
 | [],r,K=>K r
 |(t,v)::l,r,K=>dW l r fun r=>K ((t,v)::r)
def ow:u0->(u0->Prop)->Prop
 | [],K=>K []
 |(t,v)::l,K=>ow l fun r=>K ((t,v)::r)
theorem Ch:∀{ts:List Nat} {fr:Fr} {K:Fr->Prop},Q9 ts fr K->∃r,K r
 | [],fr,K,h=>by
   simp only[Q9]at h;split at h
   exact⟨_,h⟩;exact⟨_,h⟩
 |t::ts,fr,K,h=>by
  simp only[Q9]at h;split at h
  obtain⟨r,hr⟩:=Ch h;exact⟨_,hr⟩;exact h.out.elim
theorem Ci:∀{l r:Fr} {K:Fr->Prop},dW l r K<->K (l++r)
 | [],r,K=>xY
 |(t,v)::l,r,K=>by simp only[dW,List.cons_append,Ci]
theorem NT:∀{l:u0} {K:u0->Prop},ow l K<->K l
 | [],K=>xY
 |(t,v)::l,K=>by simp only[ow,NT]
theorem ua.go{body:Code}{Q:Post}(hT:ux M.P M.C.T)(ks:List Nat){X:Type}(P:X->Prop)(mV:X->Fr)(Ox:X->u0)(n0:Nat)(Z:X->Nat)(x0:X)(hP:P x0)
 (h:Q9 ks fr fun jq=>(dW (mV x0) jq fun fr'=>ow (Ox x0) fun O'=>vY M fr O nx fr' O' n0)/\
   ∀x,P x->dW (mV x) jq fun qh=>ow (Ox x) fun O1=>run M body qh O1 n0 fun e fr O nx=>match e with
    | .normal=> ∃x',P x'/\Z x'<Z x/\dW (mV x') jq fun fr'=>ow (Ox x') fun O'=>vY M fr O nx fr' O' n0
    |e=>Q e fr O nx):ua M body fr O nx Q:=by
 obtain⟨jq,h1,h2⟩:=Ch h;simp only[Ci,NT]at h1 h2;exact ua.inv hT P (fun x=>(mV x++jq,Ox x,n0)) Z x0 hP h1 h2
theorem o4.at{rs:List (List SV)}{i:Nat}{g:Prop}{K:List SV->Prop}{row:List SV}(h:rs[i]?=some row)(k:K row):o4 g rs i K:=⟨row,fun _=>h,k⟩
theorem Z4{a:Int}(h1: -9223372036854775808<=a)(h2:a<=9223372036854775807):IntKind.i64.wrap a=a:=IntWalk.i64_in _ ⟨by omega,by omega⟩
theorem Zb{a:Int}(h1: -2147483648<=a)(h2:a<=2147483647):IntKind.i32.wrap a=a:=IntWalk.i32_in _ ⟨by omega,by omega⟩
theorem dD:(∀(p:Prop) [Decidable p],(decide p=true)=p)/\(∀(p:Prop) [Decidable p],(decide p=false)<->¬p)/\(∀b:Bool,(¬b=true)=(b=false))/\(∀b:Bool,(¬b=false)=(b=true))/\(∀a b:Bool,((!a)=b)<->(a=!b))/\
 ((!true)=false)/\((!false)=true)/\(∀a b:Bool,((a&&b)=true)=(a=true/\b=true))/\(∀a b:Bool,((a||b)=true)=(a=true\/b=true))/\(∀a b:Bool,((a&&b)=false)=(a=true->b=false))/\(∀a b:Bool,((a||b)=false)=(a=false/\b=false))/\
 (∀{J:Type} [BEq J] [LawfulBEq J] (a b:J),((a !=b)=true)<->a≠b)/\(∀{J:Type} [BEq J] [LawfulBEq J] (a b:J),((a !=b)=false)<->a=b)/\(∀{J:Type} [BEq J] [LawfulBEq J] (a b:J),((a==b)=true)<->a=b)/\(∀{J:Type} [BEq J] [LawfulBEq J] (a b:J),((a==b)=false)<->a≠b)/\
 (∀{J:Type} (a b:J),(a≠b)=¬(a=b))/\(∀c:Bool,(bif c then c else false)=c)/\(∀a b:Bool,(bif a then b else false)=(a&&b))/\(∀a b:Bool,(bif a then true else b)=(a||b))/\(∀a b:Bool,(bif a then b else true)=(!a||b))/\(∀a b:Bool,(bif a then false else b)=(!a&&b)):=
 ⟨fun p _=>by simp,fun p _=>by simp,fun b=>by simp,fun b=>by simp,fun a b=>by cases a<;>cases b<;>simp,rfl,rfl,fun a b=>by simp,fun a b=>by simp,fun a b=>by simp,fun a b=>by simp,fun a b=>by simp,fun a b=>by simp,fun a b=>by simp,fun a b=>by simp,
  fun a b=>rfl,fun c=>by cases c<;>rfl,fun a b=>by cases a<;>rfl,fun a b=>by cases a<;>rfl,fun a b=>by cases a<;>rfl,fun a b=>by cases a<;>rfl⟩
theorem KF:(∀a b:Int,(¬a<b)<->b<=a)/\(∀a b:Int,(¬a<=b)<->b<a)/\(decide True=true)/\(decide False=false)/\(∀{J:Type} (a b:J),(bif true then a else b)=a)/\(∀{J:Type} (a b:J),(bif false then a else b)=b)/\
 (∀b:Bool,(true||b)=true)/\(∀b:Bool,(b||true)=true)/\(∀b:Bool,(false||b)=b)/\(∀b:Bool,(b||false)=b)/\(∀b:Bool,(true&&b)=b)/\(∀b:Bool,(b&&true)=b)/\(∀b:Bool,(false&&b)=false)/\(∀b:Bool,(b&&false)=false)/\
 (∀p:Prop,(True\/p)=True)/\(∀p:Prop,(p\/True)=True)/\(∀p:Prop,(False\/p)=p)/\(∀p:Prop,(p\/False)=p)/\(∀p:Prop,(True/\p)=p)/\(∀p:Prop,(p/\True)=p)/\(∀p:Prop,(False/\p)=False)/\(∀p:Prop,(p/\False)=False)/\
 ((¬True)=False)/\((¬False)=True)/\((false=true)=False)/\((true=false)=False)/\(∀p q:Prop,(¬(p\/q))<->(¬p/\¬q))/\(∀p q:Prop,(¬(p/\q))<->(p->¬q))/\(∀p:Prop,(¬ ¬p)<->p):=
 ⟨fun a b=>Int.not_lt,fun a b=>Int.not_le,by simp,by simp,fun a b=>rfl,fun a b=>rfl,fun b=>by simp,fun b=>by simp,fun b=>by simp,fun b=>by simp,fun b=>by simp,fun b=>by simp,fun b=>by simp,fun b=>by simp,fun p=>by simp,fun p=>by simp,fun p=>by simp,fun p=>by simp,fun p=>by simp,fun p=>by simp,fun p=>by simp,fun p=>by simp,
  by simp,by simp,by simp,by simp,fun p q=>by simp,fun p q=>by simp,fun p=>Classical.not_not⟩
theorem uP:(∀{J:Type} (a:J) (l:List J),(a::l).length=l.length+1)/\(∀{J:Type},([]:List J).length=0)/\(∀{J:Type} (a b:List J),(a++b).length=a.length+b.length)/\(∀p:Prop,(True/\p)=p)/\(∀p:Prop,(p/\True)=p):=
 ⟨fun a l=>rfl,rfl,fun a b=>ze,fun p=>by simp,fun p=>by simp⟩
theorem Ye{xs:List (List SV)}{m n k b:Nat}(B:Nat)(hb:Nat.ble b B=true)(hB:Nat.ble 1 B=true)(h1:xs.length=m)(h2:n<=k)(h3:min (2*(n+m)) ((n+m)+(n+m)/4+192)*B<=281474976710656):xs.length=m/\n<=k/\n+m<=9223372036854775807/\min (2*(n+m)) ((n+m)+(n+m)/4+192)*b<=281474976710656:=by
 have hb:=zP hb;have hB:=zP hB;refine⟨h1,h2,?_,zK (Nat.mul_le_mul_left _ hb) h3⟩;have:n+m<=min (2*(n+m)) ((n+m)+(n+m)/4+192)*B:=zK (by omega) (Nat.le_mul_of_pos_right _ hB);omega
theorem KG{O:u0}{b:wG}{r len:Nat}{lim:Option Nat}{n:Nat}(h:n<=len):(n:Int)<=(reach O b r len lim:Nat):=by
 have:len<=reach O b r len lim:=by
  unfold reach;split
  exact zn _
  .split
   exact Nat.le_max_left _ _;exact zn _
 omega
end Go.Sx
namespace Go.Our
open Go.Sx
abbrev Sm(s:List UInt8):Prop:=s.length<=1152921504606846976
abbrev bn(c:UInt8):Int:=(c.toNat:Int)
theorem Zl0(c:UInt8):0<=bn c/\bn c<256:=by
 have:=c.toNat_lt;unfold bn;omega
theorem Y7(s:List UInt8)(i:Int):0<=Zm s i/\Zm s i<256:=Zl0 _
def XL(r:Int):Prop:=0<=r/\r<=1114111/\(r<55296\/57343<r)
instance (r:Int):Decidable (XL r):=by unfold XL;infer_instance
def FX(r:Int):Bool:=decide (XL r)
theorem Uo{r:Int}:FX r=true<->0<=r/\r<=1114111/\(r<55296\/57343<r):=yt
theorem NU{r:Int}:FX r=false<->¬(0<=r/\r<=1114111/\(r<55296\/57343<r)):=yL
def mz(c:Int):Int×Int:=
 if c<128 then(1,c)else if c<192 then(0,0)else if c<224 then(2,c%32)else if c<240 then(3,c%16)else if c<248 then(4,c%8)else(0,0)
def KH(n:Int):Int:=if n=2 then 128 else if n=3 then 2048 else if n=4 then 65536 else 0
theorem Zi8:KH 1=0:=rfl
theorem Zi9:KH 2=128:=rfl
theorem Zia:KH 3=2048:=rfl
theorem Zib:KH 4=65536:=rfl
def r2(a b:Int):Int:=a%32*64+b%64
def r3(a b c:Int):Int:=(a%16*64+b%64)*64+c%64
def r4(a b c d:Int):Int:=((a%8*64+b%64)*64+c%64)*64+d%64
def gG(m a b c d:Int):Int×Int:=
 if a<128 then(a,1)
 else if a<192 then(0,0)
 else if a<224 then
  if 2<=m/\(128<=b/\b<192)/\128<=r2 a b then(r2 a b,2)else(0,0)
 else if a<240 then
  if 3<=m/\(128<=b/\b<192)/\(128<=c/\c<192)/\2048<=r3 a b c/\(r3 a b c<55296\/57343<r3 a b c)then(r3 a b c,3)else(0,0)
 else if a<248 then
  if 4<=m/\(128<=b/\b<192)/\(128<=c/\c<192)/\(128<=d/\d<192)/\65536<=r4 a b c d/\r4 a b c d<=1114111 then(r4 a b c d,4)else(0,0)
 else(0,0)
def Zf(s:List UInt8)(i:Int):Int×Int:=if i<0\/(s.length:Int)<=i then(0,0)else gG (s.length-i) (Zm s i) (Zm s (i+1)) (Zm s (i+2)) (Zm s (i+3))
theorem ZjO(m a b c d:Int)(h:1<=m):(gG m a b c d).2=0\/1<=(gG m a b c d).2/\(gG m a b c d).2<=4/\(gG m a b c d).2<=m:=by
 unfold gG
 (repeat' split)<;>simp<;>omega
theorem Xa(s:List UInt8)(i:Int):(Zf s i).2=0\/1<=(Zf s i).2/\(Zf s i).2<=4/\(Zf s i).2<=s.length-i:=by
 unfold Zf;split
 simp;exact ZjO _ _ _ _ _ (by omega)
def cM(s:List UInt8)(i:Nat):Int:=
 if h:i<s.length/\(Zf s i).2≠0 then cM s (i+(Zf s i).2.toNat)else if i<s.length then i else-1
termination_by s.length-i
decreasing_by have:=Xa s i;omega
theorem NV{s:List UInt8}{i:Nat}(h:s.length<=i):cM s i= -1:=by
 rw[cM,yP (by omega),z6 (by omega)]
theorem Cj{s:List UInt8}{i:Nat}(h:i<s.length)(h0:(Zf s i).2=0):cM s i=i:=by
 rw[cM,yP (by simp[h0]),z8 h]
theorem Ck{s:List UInt8}{i:Nat}(h:i<s.length)(h0:(Zf s i).2≠0):cM s i=cM s (i+(Zf s i).2.toNat):=by
 rw[cM,yx ⟨h,h0⟩]
theorem ZjP(s:List UInt8)(i:Nat): -1<=cM s i:=by
 induction i using cM.induct s with
 |case1 i h ih=>rw[Ck h.1 h.2];exact ih
 |case2 i h hlt=>
  have:(Zf s i).2=0:=by
   apply xX;intro hh;exact h ⟨hlt,hh⟩
  rw[Cj hlt this];omega
 |case3 i h hlt=>rw[NV (by omega)];omega
theorem Z8r(c:Int):(c<128/\mz c=(1,c))\/((128<=c/\c<192\/248<=c)/\mz c=(0,0))\/((192<=c/\c<224)/\mz c=(2,c%32))\/((224<=c/\c<240)/\mz c=(3,c%16))\/((240<=c/\c<248)/\mz c=(4,c%8)):=by
 unfold mz
 (repeat' split)<;>simp<;>omega
theorem KJ{p:Int->Bool}(h:(List.range 256).all (fun n=>p (n:Int))=true){c:Int}(h0:0<=c/\c<256):p c=true:=by
 have:=zN.1 h c.toNat (zY.2 (by omega));rwa [show((c.toNat:Nat):Int)=c by omega]at this
theorem NW{c:Int}(h:0<=c/\c<256):gU .u8 c 31=c%32:=by
 have:=KJ (p:=fun n=>gU .u8 n 31==n%32) (by decide+kernel) h;simpa using this
theorem NY{c:Int}(h:0<=c/\c<256):gU .u8 c 15=c%16:=by
 have:=KJ (p:=fun n=>gU .u8 n 15==n%16) (by decide+kernel) h;simpa using this
theorem KK{c:Int}(h:0<=c/\c<256):gU .u8 c 7=c%8:=by
 have:=KJ (p:=fun n=>gU .u8 n 7==n%8) (by decide+kernel) h;simpa using this
theorem Zl1{c:Int}(h:0<=c/\c<256):gU .u8 c 63=c%64:=by
 have:=KJ (p:=fun n=>gU .u8 n 63==n%64) (by decide+kernel) h;simpa using this
theorem ZjS{c:Int}(h:0<=c/\c<256):gU .u8 c 192=c/64*64:=by
 have:=KJ (p:=fun n=>gU .u8 n 192==n/64*64) (by decide+kernel) h;simpa using this
theorem NZ(w n:Nat):(BitVec.ofInt w (n:Int)).toNat=n%2^w:=by
 rw[BitVec.toNat_ofInt];norm_cast
theorem ZjT{k:IntKind}{a b i:Nat}(hb:b<2^i)(h:a*2^i+b<2^k.bits):QK k ((a*2^i:Nat):Int) (b:Int)=k.wrap ((a*2^i+b:Nat):Int):=by
 unfold QK
 have h1:(BitVec.ofInt k.bits ((a*2^i:Nat):Int)|||BitVec.ofInt k.bits (b:Int)).toNat=a*2^i+b:=by
  rw[BitVec.toNat_or,NZ,NZ,Nat.mod_eq_of_lt (by omega),Nat.mod_eq_of_lt (by omega)];rw[<-Nat.shiftLeft_eq,Nat.shiftLeft_add_eq_or_of_lt hb]
 rw[h1]
theorem M1{x c:Int}(hx:0<=x/\x<16777216)(hc:0<=c/\c<256):QK .i32 (oT .i32 x 6) (IntKind.i32.wrap (gU .u8 c 63))=x*64+c%64:=by
 rw[Zl1 hc,Zb (by omega) (by omega)]
 have h1:oT .i32 x 6=((x.toNat*2^6:Nat):Int):=by
  unfold oT;rw[show(min (Int.toNat 6) (IntKind.i32.bits))=6 by decide,show x*2^6=x*64 by rfl,Zb (by omega) (by omega)];omega
 have h2:c%64=(((c%64).toNat:Nat):Int):=by omega
 rw[h1,h2,ZjT (by omega) (by show _<2^32;omega),Zb (by omega) (by omega)];omega
structure Tm where
 k:Int
 t:List UInt8
 y:List UInt8
 l:List UInt8
 deriving DecidableEq
structure Qd where
 s:Tm
 p:Tm
 o:Tm
 g:Tm
 deriving DecidableEq
abbrev e8(x:Tm):Prop:=Sm x.t/\Sm x.y/\Sm x.l
abbrev n5(q:Qd):Prop:=e8 q.s/\e8 q.p/\e8 q.o/\e8 q.g
def Tm.sv(x:Tm):SV:= .agg [.int .i64 x.k, .str x.t, .str x.y, .str x.l]
def Qd.sv(q:Qd):SV:= .agg [.int .i64 q.s.k, .str q.s.t, .str q.s.y, .str q.s.l, .int .i64 q.p.k, .str q.p.t, .str q.p.y, .str q.p.l, .int .i64 q.o.k, .str q.o.t, .str q.o.y, .str q.o.l, .int .i64 q.g.k, .str q.g.t, .str q.g.y, .str q.g.l]
def ZF:Tm:=⟨0,[],[],[]⟩
end Go.Our
namespace Go.Sx
open Go
def nr(σ:Nat->Nat)(fr:Fr):Fr->Prop
 | []=>True
 |(t,v)::r=>match u6 t fr with
  |some u=>u=uD σ v/\nr σ fr r
  |none=>False
def KL(σ:Nat->Nat)(O:u0):u0->Prop
 | []=>True
 |(i,h)::r=>match u6 (σ i) O with
  |some g=>g=uo σ h/\KL σ O r
  |none=>False
theorem M5{σ:Nat->Nat}{m:Nat}{fr:Fr}:∀{fr':Fr},nr σ fr fr'->VL m fr'=true->dx σ m fr fr'
 | [],_,_=>trivial
 |(t,v)::r,h,b=>by
  simp only[nr]at h;simp only[VL,zk]at b;split at h
  .rename_i u hu;obtain⟨rfl,h⟩:=h;exact⟨⟨hu,b.1⟩,M5 h b.2⟩
  exact h.elim
theorem M6{σ:Nat->Nat}{m:Nat}{O:u0}:∀{O':u0},KL σ O O'->Zu m O'=true->og σ m O O'
 | [],_,_=>trivial
 |(t,v)::r,h,b=>by
  simp only[KL]at h;simp only[Zu,zk]at b;split at h
  .rename_i u hu;obtain⟨rfl,h⟩:=h;exact⟨⟨b.1,hu,b.2.1⟩,M6 h b.2.2⟩
  exact h.elim
theorem vY.jI{M:Mx}{fr:Fr}{O:u0}{nx k:Nat}{fr':Fr}{O':u0}(hk:M.η0.length=k)(J:List Nat)(hτ:J.all (fun i=>Nat.blt i nx)=true)
 (hn:(Zg O').all (fun j=>(Zg O').all fun j'=>!(Nat.beq (YE k J j) (YE k J j'))||Nat.beq j j')=true)
 (tu:VL (k+J.length) fr'=true) (tv:Zu (k+J.length) O'=true) (hf:nr (YE k J) fr fr') (hO:KL (YE k J) O O') (hd:rz fr fr'=true:=by rfl) (hro:rA M.C.ro (YE k J) (k+J.length)=true:=by rfl):vY M fr O nx fr' O' (k+J.length):=
 vY.keep hk J hτ (M5 hf tu) (M6 hO tv) hn hd hro
theorem YZ{b b':wG}{r es n n':Nat}{lim:Option Nat}(hb:b=b')(hn:n=n'):SV.sl b r es n lim=SV.sl b' r es n' lim:=by rw[hb,hn]
theorem Xg{es:Nat}{rs rs':List (List SV)}{σ:Nat->Nat}(hp:Zj rs'=true)(h:rs=rs'):Hp.rows es rs=uo σ (.rows es rs'):=by rw[Ze σ (h:= .rows es rs') hp,h]
theorem vW.mono{P:Program}{T:qg}{f:FuncId}{k:Nat}{args:List SV}{O S:u0}{Q Q':SV->u0->Nat->Prop}(h:vW P T f k args O S Q)(hq:∀r O nx,Q r O nx->Q' r O nx):vW P T f k args O S Q':=
 ⟨fun M vs h1 h2 h3 h4 h5 h6=>(h.out M vs h1 h2 h3 h4 h5 h6).mono fun v w' ⟨r,O',vZ,η',a,b⟩=>⟨r,O',vZ,η',hq _ _ _ a,b⟩⟩
def tw(es:Nat)(rs:List (List SV)):SV->u0->Nat->Prop:=fun r O nx=>r= .sl (.loc 0) 0 es rs.length none/\O=[(0, .rows es rs)]/\nx=1
theorem CALL.KM{M:Mx}{O:u0}{nx:Nat}{f:FuncId}{args:List SV}{K:SV->u0->Nat->Prop}{es:Nat}{rs:List (List SV)}(sp:vW M.P M.C.T f 0 args [] [] (tw es rs))(hp:YN args=true)(cK:Zj rs=true)
 (hK:K (.sl (.loc nx) 0 es rs.length none) ((nx, .rows es rs)::O) (nx+1)):CALL M f args O nx K:=by
 refine CALL.of [] sp rfl (fun i hi=>by cases hi) (Yg _ hp).symm (ZP 0 hp) (fun p hp=>by cases hp) (fun j hj=>by cases hj) (fun p hp=>by cases hp) ?_;rintro r' O' vZ ⟨rfl,rfl,rfl⟩;simp only[uD,kj,qF,uo,ZO _ cK,NR (L:=[]) (nx:=nx) (k:=0) rfl,Zg,yX,VH,List.cons_append,List.nil_append];exact hK
end Go.Sx
namespace Go.Our
open Go.Sx
def encI(r:Int):List Int:=
 if r<128 then [r]else if r<2048 then [192+r/64,128+r%64]else if r<65536 then [224+r/4096,128+r/64%64,128+r%64]
 else [240+r/262144,128+r/4096%64,128+r/64%64,128+r%64]
def Hr(x:Int):UInt8:=UInt8.ofNat x.toNat
def jF(r:Int):List UInt8:=(encI r).map Hr
theorem Zk2{a:Int}(h1:0<=a)(h2:a<=255):IntKind.u8.wrap a=a:=IntWalk.u8_in _ ⟨h1,h2⟩
theorem Zdj{x:Int}(h:0<=x/\x<256):((Hr x).toNat:Int)=x:=by
 unfold Hr;rw[vL (by show x.toNat<256;omega)];omega
theorem Zii{r:Int}(h:0<=r/\r<=1114111):∀x∈encI r,0<=x/\x<256:=by
 unfold encI
 (repeat' split)<;>simp<;>omega
section
variable {s:List UInt8}{i:Int}
end
abbrev qQ(s:List UInt8)(i:Nat):Nat×Nat:=Utf8.decode ⟨s.toArray⟩ i
theorem ZfO(s:List UInt8)(j:Nat):((ByteArray.mk s.toArray).get! j).toNat=(s.getD j 0).toNat:=by
 unfold ByteArray.get!;simp[List.getD,Array.getElem!_eq_getD]
 rfl
def bA(m b0 b1 b2 b3:Nat):Nat×Nat:=
 if b0<128 then(b0,1)
 else if b0/32=6/\1<m/\b1/64=2 then if 128<=b0%32*64+b1%64 then(b0%32*64+b1%64,2)else(65533,1)
 else if b0/16=14/\(1<m/\b1/64=2)/\(2<m/\b2/64=2)then
  if 2048<=b0%16*4096+b1%64*64+b2%64/\(b0%16*4096+b1%64*64+b2%64<55296\/57344<=b0%16*4096+b1%64*64+b2%64)then(b0%16*4096+b1%64*64+b2%64,3)else(65533,1)
 else if b0/8=30/\(1<m/\b1/64=2)/\(2<m/\b2/64=2)/\(3<m/\b3/64=2)then
  if 65536<=b0%8*262144+b1%64*4096+b2%64*64+b3%64/\b0%8*262144+b1%64*4096+b2%64*64+b3%64<=1114111 then(b0%8*262144+b1%64*4096+b2%64*64+b3%64,4)else(65533,1)
 else(65533,1)
theorem Vr(s:List UInt8)(i:Nat):qQ s i=bA (s.length-i) (s.getD i 0).toNat (s.getD (i+1) 0).toNat (s.getD (i+2) 0).toNat (s.getD (i+3) 0).toNat:=by
 unfold qQ Utf8.decode bA;simp only[ZfO,Nat.add_zero];have hsz:(ByteArray.mk s.toArray).size=s.length:=by simp[ByteArray.size]
 rw[hsz];generalize(s.getD i 0).toNat=b0;generalize(s.getD (i+1) 0).toNat=b1;generalize(s.getD (i+2) 0).toNat=b2;generalize(s.getD (i+3) 0).toNat=b3;have e:∀k,(i+k<s.length)=(k<s.length-i):=fun k=>by simp;omega
 simp only[zk,xC,yN,e,Utf8.valid,Utf8.runeError,xD,ge_iff_le];by_cases c1:b0<128
 simp[c1];by_cases c2:b0/32=6/\1<s.length-i/\b1/64=2
 simp[c1,c2];by_cases c3:b0/16=14/\(1<s.length-i/\b1/64=2)/\(2<s.length-i/\b2/64=2)
 .have G6:(b0/16=14/\(1<s.length-i/\b1/64=2))/\(2<s.length-i/\b2/64=2):=⟨⟨c3.1,c3.2.1⟩,c3.2.2⟩;rw[z6 c1,z6 c2,z8 G6,z6 c1,z6 c2,z8 c3];congr 1;simp;omega
 by_cases c4:b0/8=30/\(1<s.length-i/\b1/64=2)/\(2<s.length-i/\b2/64=2)/\(3<s.length-i/\b3/64=2)
 .have CI:((b0/8=30/\(1<s.length-i/\b1/64=2))/\(2<s.length-i/\b2/64=2))/\(3<s.length-i/\b3/64=2):=⟨⟨⟨c4.1,c4.2.1⟩,c4.2.2.1⟩,c4.2.2.2⟩;have G6:¬((b0/16=14/\(1<s.length-i/\b1/64=2))/\(2<s.length-i/\b2/64=2)):=fun h=>c3 ⟨h.1.1,h.1.2,h.2⟩;rw[z6 c1,z6 c2,z6 G6,z8 CI,z6 c1,z6 c2,z6 c3,z8 c4];congr 1;simp;omega
 .have CI:¬(((b0/8=30/\(1<s.length-i/\b1/64=2))/\(2<s.length-i/\b2/64=2))/\(3<s.length-i/\b3/64=2)):=fun h=>c4 ⟨h.1.1.1,h.1.1.2,h.1.2,h.2⟩;have G6:¬((b0/16=14/\(1<s.length-i/\b1/64=2))/\(2<s.length-i/\b2/64=2)):=fun h=>c3 ⟨h.1.1,h.1.2,h.2⟩;rw[z6 c1,z6 c2,z6 G6,z6 CI,z6 c1,z6 c2,z6 c3,z6 c4]
theorem Hs(s:List UInt8)(i:Nat):1<=(qQ s i).2:=by
 rw[Vr];unfold bA
 (repeat' split)<;>simp
theorem CJ(s:List UInt8)(i:Nat)(h:i<s.length):i+(qQ s i).2<=s.length:=by
 rw[Vr];unfold bA
 (repeat' split)<;>simp<;>omega
theorem Z8F(s:List UInt8)(i:Nat):XL ((qQ s i).1:Int):=by
 have h:=(s.getD i 0).toNat_lt;rw[Vr];unfold bA XL;generalize(s.getD i 0).toNat=b0 at*;generalize(s.getD (i+1) 0).toNat=b1 at*;generalize(s.getD (i+2) 0).toNat=b2 at*;generalize(s.getD (i+3) 0).toNat=b3 at*
 (repeat' split)<;>simp<;>omega
theorem UW{s:List UInt8}{i:Nat}(h:Zm s i<128):qQ s i=((Zm s i).toNat,1):=by
 have e:Zm s i=((s.getD i 0).toNat:Int):=rfl;rw[Vr];unfold bA;rw[e]at h⊢;clear e;generalize(s.getD i 0).toNat=b0 at*;generalize(s.getD (i+1) 0).toNat=b1 at*;generalize(s.getD (i+2) 0).toNat=b2 at*;generalize(s.getD (i+3) 0).toNat=b3 at*;rw[z8 (by omega)];simp
theorem CL{s:List UInt8}{i:Nat}(h:128<=Zm s i):128<=(qQ s i).1:=by
 have e:Zm s i=((s.getD i 0).toNat:Int):=rfl;have l0:=(s.getD i 0).toNat_lt;rw[Vr];unfold bA;rw[e]at h;clear e;generalize(s.getD i 0).toNat=b0 at*;generalize(s.getD (i+1) 0).toNat=b1 at*;generalize(s.getD (i+2) 0).toNat=b2 at*;generalize(s.getD (i+3) 0).toNat=b3 at*
 (repeat' split)<;>simp<;>omega
theorem Zdk{s:List UInt8}{i:Nat}(hi:i<s.length)(h:(Zf s i).2≠0):((qQ s i).1:Int)=(Zf s i).1/\((qQ s i).2:Int)=(Zf s i).2:=by
 have l0:=(s.getD i 0).toNat_lt;have l1:=(s.getD (i+1) 0).toNat_lt;have l2:=(s.getD (i+2) 0).toNat_lt;have l3:=(s.getD (i+3) 0).toNat_lt;have e0:Zm s i=((s.getD i 0).toNat:Int):=rfl;have e1:Zm s ((i:Int)+1)=((s.getD (i+1) 0).toNat:Int):=rfl;have e2:Zm s ((i:Int)+2)=((s.getD (i+2) 0).toNat:Int):=rfl;have e3:Zm s ((i:Int)+3)=((s.getD (i+3) 0).toNat:Int):=rfl;rw[Vr];unfold Zf gG r2 r3 r4 at h⊢;rw[z6 (show ¬((i:Int)<0\/(s.length:Int)<=i)by omega)]at h⊢;simp only[e0,e1,e2,e3]at h⊢;clear e0 e1 e2 e3;unfold bA;generalize(s.getD i 0).toNat=b0 at*;generalize(s.getD (i+1) 0).toNat=b1 at*;generalize(s.getD (i+2) 0).toNat=b2 at*;generalize(s.getD (i+3) 0).toNat=b3 at*;rcases(by omega:(b0:Int)<128\/(128<=(b0:Int)/\(b0:Int)<192)\/(192<=(b0:Int)/\(b0:Int)<224)\/(224<=(b0:Int)/\(b0:Int)<240)\/(240<=(b0:Int)/\(b0:Int)<248)\/248<=(b0:Int))with ha|ha|ha|ha|ha|ha
 simp(disch:=omega) only[↓z8,↓z6];simp;simp(disch:=omega) only[↓z8,↓z6]at h;simp at h
 .simp(disch:=omega) only[↓z6,↓z8]at h⊢;split at h
  .rename_i hc;simp(disch:=omega) only[↓z6,↓z8];simp<;>omega
  simp at h
 .simp(disch:=omega) only[↓z6,↓z8]at h⊢;split at h
  .rename_i hc;simp(disch:=omega) only[↓z6,↓z8];simp<;>omega
  simp at h
 .simp(disch:=omega) only[↓z6,↓z8]at h⊢;split at h
  .rename_i hc;simp(disch:=omega) only[↓z6,↓z8];simp<;>omega
  simp at h
 simp(disch:=omega) only[↓z8,↓z6]at h;simp at h
theorem Zdl{r:Int}(h:XL r):(Utf8.encode r).data.toList=jF r:=by
 unfold XL at h;have hv:Utf8.valid r=true:=by simp[Utf8.valid];omega
 obtain⟨n,rfl⟩:∃n:Nat,r=n:=⟨r.toNat,by omega⟩;unfold Utf8.encode jF encI Hr;simp only[hv,yH,Int.toNat_natCast];rcases(by omega:n<128\/(128<=n/\n<2048)\/(2048<=n/\n<65536)\/65536<=n)with c|c|c|c
 all_goals simp(disch:=omega) only[↓z8,↓z6,zL,yX]
 all_goals
  simp only[x5,vp]
  (repeat'(first|rfl|refine⟨?_,?_⟩))<;>congr 1<;>omega
theorem ZfP{r:Int}(h:128<=r):2<=(jF r).length/\(jF r).length<=4:=by
 unfold jF encI
 (repeat' split)<;>simp<;>omega
theorem Zdm{r:Int}(hs:XL r)(h:128<=r):∀c∈jF r,128<=bn c:=by
 have hl:=Zii ⟨hs.1,hs.2.1⟩;intro c hc;unfold jF at hc;obtain⟨x,hx,rfl⟩:=zM.1 hc;have:=hl x hx;unfold bn;rw[Zdj this];unfold XL at hs;unfold encI at hx
 (repeat'(split at hx))<;>simp at hx<;>omega
def Barred(c:Int):Prop:=c<=32\/c=60\/c=62\/c=34\/c=123\/c=125\/c=124\/c=94\/c=96\/c=92
instance (c:Int):Decidable (Barred c):=by unfold Barred;infer_instance
def WJ(c:Int):Bool:=decide (Barred c)
theorem Z7e{c:Int}:WJ c=true<->Barred c:=yt
theorem Z5K{c:Int}:WJ c=false<->¬Barred c:=yL
def bars:List UInt8:=[60,62,34,123,125,124,94,96,92]
def gY(p:Int->Bool)(s:List UInt8)(i:Nat):Int:=
 if h:i<s.length then if p ((qQ s i).1:Int)then i else gY p s (i+(qQ s i).2)else-1
termination_by s.length-i
decreasing_by have:=Hs s i;omega
theorem MX{p:Int->Bool}{s:List UInt8}{i:Nat}(h:s.length<=i):gY p s i= -1:=by rw[gY,yP (by omega)]
theorem MY{p:Int->Bool}{s:List UInt8}{i:Nat}(h:i<s.length)(hp:p ((qQ s i).1:Int)=true):gY p s i=i:=by rw[gY,yx h,z8 hp]
theorem CM{p:Int->Bool}{s:List UInt8}{i:Nat}(h:i<s.length)(hp:p ((qQ s i).1:Int)=false):gY p s i=gY p s (i+(qQ s i).2):=by
 conv=>lhs;rw[gY]
 rw[yx h,z6 (by simp[hp])]
def ep(p:Int->Bool)(s:List UInt8)(i:Nat):Bool:=
 if h:i<s.length then p (Zm s i)||ep p s (i+1)else false
termination_by s.length-i
theorem MZ{p:Int->Bool}{s:List UInt8}{i:Nat}(h:s.length<=i):ep p s i=false:=by rw[ep,yP (by omega)]
theorem CN{p:Int->Bool}{s:List UInt8}{i:Nat}(h:i<s.length):ep p s i=(p (Zm s i)||ep p s (i+1)):=by
 conv=>lhs;rw[ep]
 rw[yx h]
theorem Zdo{p:Int->Bool}{s:List UInt8}{i n:Nat}(h:i+n<=s.length)(hp:∀k:Nat,k<n->p (Zm s (i+k:Nat))=false):ep p s i=ep p s (i+n):=by
 induction n with
 |zero=>rfl
 |succ n ih=>
  rw[ih (by omega) (fun k hk=>hp k (by omega)),CN (by omega),hp n (by omega),xQ];rfl
theorem Z8H{s:List UInt8}{i:Nat}(hi:i<s.length)(h:(Zf s i).2≠0)(h1:128<=Zm s i):∀k:Nat,k< (Zf s i).2.toNat->128<=Zm s (i+k:Nat):=by
 have e0:=Y7 s i;have e1:=Y7 s (i+1);have e2:=Y7 s (i+2);have e3:=Y7 s (i+3);unfold Zf gG at h⊢;rw[z6 (show ¬((i:Int)<0\/(s.length:Int)<=i)by omega)]at h⊢;intro k hk
 have hb:(k=0/\Zm s (i+k:Nat)=Zm s i)\/(k=1/\Zm s (i+k:Nat)=Zm s (i+1))\/(k=2/\Zm s (i+k:Nat)=Zm s (i+2))\/(k=3/\Zm s (i+k:Nat)=Zm s (i+3))\/4<=k:=by
  rcases(by omega:k=0\/k=1\/k=2\/k=3\/4<=k)with rfl|rfl|rfl|rfl|h
  exact .inl ⟨rfl,rfl⟩;exact .inr (.inl ⟨rfl,rfl⟩);exact .inr (.inr (.inl ⟨rfl,rfl⟩));exact .inr (.inr (.inr (.inl ⟨rfl,rfl⟩)));exact .inr (.inr (.inr (.inr h)))
 generalize Zm s (i+k:Nat)=x at*;generalize Zm s i=a at*;generalize Zm s (i+1)=b at*;generalize Zm s (i+2)=c at*;generalize Zm s (i+3)=d at*;rw[z6 (show ¬a<128 by omega)]at h hk
 (repeat'(split at hk))<;>simp at hk<;>omega
theorem Z7f(p:Int->Bool)(hp:∀c,128<=c->p c=false)(s:List UInt8)(i:Nat):cM s i= -1->(0<=gY p s i<->ep p s i=true):=by
 induction i using cM.induct s with
 |case1 i h ih=>
  intro hc;rw[Ck h.1 h.2]at hc;have hn:=Xa s i;have hd:=Zdk h.1 h.2;have e0:=Y7 s i;by_cases ha:Zm s i<128
  .have hd':=UW ha;have h1:(Zf s i).2=1:=by rw[hd']at hd;simp at hd;omega
   rw[CN h.1];by_cases hb:p (Zm s i)=true
   .rw[MY h.1 (by rw[hd'];simp only;rw[show((Zm s i).toNat:Int)=Zm s i by omega];exact hb)];simp[hb]
   .have hb:p (Zm s i)=false:=by simpa using hb
    rw[CM h.1 (by rw[hd'];simp only;rw[show((Zm s i).toNat:Int)=Zm s i by omega];exact hb),hb,xQ];have:=ih hc;rw[h1]at this;rw[hd'];exact this
  .have ha:128<=Zm s i:=by omega
   rw[CM h.1 (hp _ (by have:=CL ha;omega))];rw[Zdo (n:=(Zf s i).2.toNat) (by omega) (fun k hk=>hp _ (Z8H h.1 h.2 ha k hk))];have:=ih hc;rw[show(qQ s i).2=(Zf s i).2.toNat by omega];exact this
 |case2 i h hlt=>
  intro hc
  have:(Zf s i).2=0:=by
   apply xX;intro hh;exact h ⟨hlt,hh⟩
  rw[Cj hlt this]at hc;omega
 |case3 i h hlt=>
  intro _;rw[MX (by omega),MZ (by omega)];simp
def oz(s:List UInt8):Int:=
 if 65536<s.length then 2 else if 0<=cM s 0 then 40 else if ep WJ s 0 then 50 else 0
def JH(c:Int):Prop:=(97<=c/\c<=122)\/(65<=c/\c<=90)
def ai(c:Int):Prop:=(48<=c/\c<=57)\/c=43\/c=45\/c=46
instance (c:Int):Decidable (JH c):=by unfold JH;infer_instance
instance (c:Int):Decidable (ai c):=by unfold ai;infer_instance
def jb(s:List UInt8)(i:Nat):Int:=
 if h:i<s.length then if Zm s i=58 then i else if JH (Zm s i)\/i≠0/\ai (Zm s i)then jb s (i+1)else 0 else 0
termination_by s.length-i
theorem CO{s:List UInt8}{i:Nat}(h:s.length<=i):jb s i=0:=by rw[jb,yP (by omega)]
theorem CP{s:List UInt8}{i:Nat}(h:i<s.length)(hc:Zm s i=58):jb s i=i:=by rw[jb,yx h,z8 hc]
theorem L2{s:List UInt8}{i:Nat}(h:i<s.length)(hc:¬Zm s i=58)(hl:JH (Zm s i)\/i≠0/\ai (Zm s i)):jb s i=jb s (i+1):=by
 conv=>lhs;rw[jb]
 rw[yx h,z6 hc,z8 hl]
theorem L3{s:List UInt8}{i:Nat}(h:i<s.length)(hc:¬Zm s i=58)(hl:¬(JH (Zm s i)\/i≠0/\ai (Zm s i))):jb s i=0:=by
 rw[jb,yx h,z6 hc,z6 hl]
theorem ZfQ(s:List UInt8)(i:Nat):0<=jb s i/\jb s i<=s.length:=by
 induction i using jb.induct s with
 |case1 i h hc=>rw[CP h hc];omega
 |case2 i h hc hl ih=>rw[L2 h hc hl];exact ih
 |case3 i h hc hl=>rw[L3 h hc hl];omega
 |case4 i h=>rw[CO (by omega)];omega
def dX(s:List UInt8):Int:=if oz s≠0 then oz s else if jb s 0=0 then 51 else 0
theorem Wm{c:UInt8}:∀{l:List UInt8},c∉l->Lib.indexByte l c= -1
 | [],_=>rfl
 |b::l,h=>by
  have h1:¬b=c:=fun e=>h (by rw[e];exact zF ..);have h2:c∉l:=fun e=>h (zG _ e);unfold Lib.indexByte;rw[Wm h2];simp[h1]
theorem CQ(i:Int):Zm bars i<128:=by
 unfold Zm;by_cases h:i.toNat<9
 .have:∀n:Nat,n<9->((bars.getD n 0).toNat:Int)<128:=by decide
  exact this _ h
 .have:bars.getD i.toNat 0=0:=by simp[List.getD,bars];rw[yd (by simp;omega)];rfl
  rw[this];decide
theorem ZfR:∀c∈bars,c.toNat<128:=by decide
theorem Zbc{s:List UInt8}{i:Int}(h:0<=i/\i<s.length):∃c∈s,Zm s i=bn c:=by
 have:i.toNat<s.length:=by omega
 refine⟨s[i.toNat],zq this,?_⟩;unfold Zm bn;simp[List.getD,this]
theorem ZfS{l:List UInt8}{c:Int}(h:128<=c/\c<256)(hl:∀b∈l,b.toNat<128):Lib.indexByte l c.toNat.toUInt8= -1:=by
 apply Wm;intro hm;have h1:=hl _ hm
 have:c.toNat.toUInt8.toNat=c.toNat:=by
  rw[Nat.toUInt8_eq,vL (by show c.toNat<256;omega)]
 omega
def rJ(r:Int):Prop:=(65<=r/\r<=90)\/(97<=r/\r<=122)\/(192<=r/\r<=214)\/(216<=r/\r<=246)\/(248<=r/\r<=767)\/(880<=r/\r<=893)\/(895<=r/\r<=8191)\/(8204<=r/\r<=8205)\/(8304<=r/\r<=8591)\/(11264<=r/\r<=12271)\/(12289<=r/\r<=55295)\/(63744<=r/\r<=64975)\/(65008<=r/\r<=65533)\/(65536<=r/\r<=983039)
instance (r:Int):Decidable (rJ r):=by unfold rJ;infer_instance
def tO(r:Int):Prop:=rJ r\/r=95
instance (r:Int):Decidable (tO r):=by unfold tO;infer_instance
def rK(r:Int):Prop:=48<=r/\r<=57
instance (r:Int):Decidable (rK r):=by unfold rK;infer_instance
def YK(r:Int):Prop:=tO r\/rK r\/r=45\/r=183\/(768<=r/\r<=879)\/r=8255\/r=8256
instance (r:Int):Decidable (YK r):=by unfold YK;infer_instance
def V2(r:Int):Prop:=tO r\/rK r
instance (r:Int):Decidable (V2 r):=by unfold V2;infer_instance
def ku(s:List UInt8)(i e:Nat):Nat:=
 if h:(Zf s i).2≠0/\((Zf s i).1=46\/YK (Zf s i).1)then
  ku s (i+(Zf s i).2.toNat) (if(Zf s i).1=46 then e else i+(Zf s i).2.toNat)
 else e
termination_by s.length-i
decreasing_by
 have:=Xa s i;omega
theorem CR{s:List UInt8}{i e:Nat}(h:(Zf s i).2≠0/\((Zf s i).1=46\/YK (Zf s i).1)):ku s i e=ku s (i+(Zf s i).2.toNat) (if(Zf s i).1=46 then e else i+(Zf s i).2.toNat):=by
 conv=>lhs;rw[ku]
 rw[yx h]
theorem CS{s:List UInt8}{i e:Nat}(h:¬((Zf s i).2≠0/\((Zf s i).1=46\/YK (Zf s i).1))):ku s i e=e:=by
 rw[ku,yP h]
theorem Zdp(s:List UInt8)(i e:Nat)(h:e<=i):e<=ku s i e/\(i<=s.length->ku s i e<=s.length):=by
 induction i,e using ku.induct s with
 |case1 i e h1 ih=>
  have hn:=Xa s i;rw[CR h1];split
  .rename_i h2;rw[yx h2]at ih;have:=ih (by omega);exact⟨this.1,fun _=>this.2 (by omega)⟩
  .rename_i h2;rw[yP h2]at ih;have:=ih (by omega);exact⟨by omega,fun _=>this.2 (by omega)⟩
 |case2 i e h1=>rw[CS h1];exact⟨by omega,fun _=>by omega⟩
def runM(p:Int->Prop)[DecidablePred p](s:List UInt8)(i:Int):Int:=
 if(Zf s i).2=0\/¬p (Zf s i).1 then 0 else(ku s (i.toNat+(Zf s i).2.toNat) (i.toNat+(Zf s i).2.toNat):Int)-i
def l9(s:List UInt8)(i:Nat):Bool:=
 if h:(Zf s i).2≠0 then
  decide ((Zf s i).1=46\/YK (Zf s i).1)&&decide ((Zf s i).1=46->i+(Zf s i).2.toNat≠s.length)&&l9 s (i+(Zf s i).2.toNat)
 else decide (s.length<=i)
termination_by s.length-i
decreasing_by have:=Xa s i;omega
theorem Zbd:¬YK 46:=by unfold YK tO rJ rK;omega
theorem UX{s:List UInt8}{i:Nat}(h:s.length<=i):(Zf s i).2=0:=by unfold Zf;rw[z8 (by omega)]
theorem Zbe(s:List UInt8)(i e:Nat)(h:e<=i)(hi:i<=s.length):ku s i e=s.length<->(if i=s.length then e=s.length else l9 s i=true):=by
 induction i,e using ku.induct s with
 |case1 i e h1 ih=>
  have hn:=Xa s i;rw[CR h1];rw[z6 (show ¬i=s.length by omega)];conv=>rhs;rw[l9]
  rw[yx h1.1];by_cases h2:(Zf s i).1=46
  .rw[yx h2]at ih;rw[z8 h2];rw[ih (by omega) (by omega)];split
   rename_i h3;simp[h2,h3];omega;rename_i h3;simp[h2,h3]
  .rw[yP h2]at ih;rw[z6 h2];rw[ih (by omega) (by omega)];have h4:YK (Zf s i).1:=by rcases h1.2 with h|h;exact(h2 h).elim;exact h
   split
   .rename_i h3;simp[h2,h3,h4];rw[l9,yP (by rw[UX (zn _)];simp)];simp
   rename_i h3;simp[h2,h4]
 |case2 i e h1=>
  rw[CS h1];split
  exact xY
  .rename_i h2;rw[l9];by_cases h3:(Zf s i).2≠0
   .rw[yx h3];have:¬((Zf s i).1=46\/YK (Zf s i).1):=fun h=>h1 ⟨h3,h⟩;simp[this];omega
   rw[yP h3];simp;omega
def U9(s:List UInt8):Int:=if runM V2 s 0=0\/runM V2 s 0≠s.length then 60 else 0
def ur(s:List UInt8)(i:Nat):Option (List Int):=
 if h:i<s.length then if h0:(Zf s i).2≠0 then(ur s (i+(Zf s i).2.toNat)).map ((Zf s i).1:: ·)else none else some []
termination_by s.length-i
decreasing_by have:=Xa s i;omega
def J2:List Int->Bool
 | []=>true
 | [r]=>decide (YK r)
 |r::q::l=>decide (YK r\/r=46)&&J2 (q::l)
theorem Z7j(s:List UInt8)(i:Nat)(hi:i<=s.length):l9 s i=(match ur s i with|some l=>J2 l|none=>false):=by
 induction i using ur.induct s with
 |case1 i h h0 ih=>
  have hn:=Xa s i;rw[l9,ur,yx h,yx h0,yx h0,ih (by omega)];by_cases h1:i+(Zf s i).2.toNat=s.length
  .rw[h1];have:ur s s.length=some []:=by rw[ur,yP (by omega)]
   rw[this];simp only[Option.map_some,J2,y6];by_cases h2:(Zf s i).1=46
   rw[h2];have:=Zbd;simp[this];simp[h2]
  .cases hc:ur s (i+(Zf s i).2.toNat)with
   |none=>simp
   |some l=>
    cases l with
    |nil=>
     exfalso;rw[ur,yx (by omega)]at hc;split at hc
     cases hq:ur s (i+(Zf s i).2.toNat+(Zf s ((i+(Zf s i).2.toNat:Nat):Int)).2.toNat)<;>rw[hq]at hc<;>simp at hc
     cases hc
    |cons q l=>
     simp only[Option.map_some,J2,h1,ne_eq,x9,implies_true,decide_true,y6];congr 1;simp only[ve];exact Or.comm
 |case2 i h h0=>
  rw[l9,ur,yP h0,yx h,yP h0];simp;omega
 |case3 i h=>
  rw[l9,ur,yP (by rw[UX (by omega)];simp),yP h];simp[J2];omega
def CT(s:List UInt8):Int:=match ur s 0 with
 |some (r::l)=>if V2 r/\J2 l=true then 0 else 60
 |_=>60
theorem ZfT(s:List UInt8):U9 s=CT s:=by
 unfold U9 CT runM;have hn:=Xa s 0;by_cases h:(0:Nat)<s.length
 .rw[ur,yx h];by_cases h0:(Zf s 0).2≠0
  .have e:Zf s ((0:Nat):Int)=Zf s 0:=rfl;rw[yx (by rw[e];exact h0),e];have hr:=Z7j s (0+(Zf s 0).2.toNat) (by omega);have hf:=Zbe s (0+(Zf s 0).2.toNat) (0+(Zf s 0).2.toNat) (zn _) (by omega);have hg:=Zdp s (0+(Zf s 0).2.toNat) (0+(Zf s 0).2.toNat) (zn _);rw[show(0:Int).toNat=0 from rfl];generalize ku s (0+(Zf s 0).2.toNat) (0+(Zf s 0).2.toNat)=g at*;by_cases hl:V2 (Zf s 0).1
   .rw[z6 (show ¬((Zf s 0).2=0\/¬V2 (Zf s 0).1)by simp[h0,hl])];by_cases h1:0+(Zf s 0).2.toNat=s.length
    .rw[z8 h1]at hf;have:ur s (0+(Zf s 0).2.toNat)=some []:=by rw[ur,yP (by omega)]
     rw[this];simp only[Option.map_some,J2,hl,and_self,yH];rw[z6];have:=hf.2 h1;omega
    .rw[z6 h1,hr]at hf;cases hc:ur s (0+(Zf s 0).2.toNat)with
     |none=>
      rw[hc]at hf;simp only[Option.map_none];rw[z8];simp at hf;omega
     |some l=>
      rw[hc]at hf;simp only[Option.map_some,hl,v7]at hf⊢;by_cases hs:J2 l=true
      .rw[z8 hs,z6];have:=hf.2 hs;omega
      .rw[z6 hs,z8];have:¬g=s.length:=fun h=>hs (hf.1 h);omega
   .rw[z8 (show((Zf s 0).2=0\/¬V2 (Zf s 0).1)from .inr hl),z8 (.inl rfl)];cases hc:ur s (0+(Zf s 0).2.toNat)with
    |none=>rfl
    |some l=>simp[hl]
  .rw[yP (show ¬(Zf s ((0:Nat):Int)).2≠0 from h0)];simp only[ne_eq,Decidable.not_not]at h0;rw[z8 (show((Zf s 0).2=0\/¬V2 (Zf s 0).1)from .inl h0),z8 (.inl rfl)]
 .rw[ur,yP h];have h0:(Zf s 0).2=0:=UX (i:=0) (by omega);rw[z8 (show((Zf s 0).2=0\/¬V2 (Zf s 0).1)from .inl h0),z8 (.inl rfl)]
def fJ(p:Int->Bool)(s:List UInt8)(i:Nat):Bool:=!ep (fun c=>!p c) s i
theorem ZfU{p:Int->Bool}{s:List UInt8}{i:Nat}(h:s.length<=i):fJ p s i=true:=by unfold fJ;rw[MZ h];rfl
theorem L4{p:Int->Bool}{s:List UInt8}{i:Nat}(h:i<s.length):fJ p s i=(p (Zm s i)&&fJ p s (i+1)):=by
 unfold fJ;rw[CN h];simp
def Ht(c:Int):Bool:=decide (JH c)
def Wn(c:Int):Bool:=decide (rK c)
def Zn(pure:Bool)(c:Int):Bool:=Ht c||(!pure&&Wn c)
def Y8(s:List UInt8)(least most:Int)(pure:Bool):Bool:=fJ (Zn pure) s 0&&decide (least<=s.length/\(s.length:Int)<=most)
theorem Z7k{c:Int}(h:128<=c):Ht c=false:=yp (by unfold JH;omega)
theorem Z8I{c:Int}(h:128<=c):Wn c=false:=yp (by unfold rK;omega)
theorem L5{pure:Bool}{c:Int}(h:128<=c):Zn pure c=false:=by unfold Zn;rw[Z7k h,Z8I h];simp
def VX(s:List UInt8):Bool:=s==[120]||s==[88]
def CU(s:List UInt8):Bool:=Y8 s 5 8 false||Y8 s 4 4 false&&Wn (Zm s 0)
def WK(s:List UInt8):Bool:=Y8 s 2 2 true||decide (s.length=3)&&Wn (Zm s 0)&&Wn (Zm s 1)&&Wn (Zm s 2)
def dY(c:UInt8):UInt8:=if 65<=c.toNat/\c.toNat<=90 then UInt8.ofNat (c.toNat+32)else c
def Zw(s:List UInt8):List UInt8:=s.map dY
def jc(s:List UInt8)(i:Nat):List UInt8:=(s.map dY).take i++s.drop i
theorem ZfV(s:List UInt8)(i:Nat):(jc s i).length=s.length:=by unfold jc;simp;omega
theorem Zds(s:List UInt8):jc s 0=s:=by simp[jc]
theorem ZfW{s:List UInt8}{i:Nat}(h:s.length<=i):jc s i=Zw s:=by unfold jc Zw;rw[zo (by simpa using h),yG h,zU]
theorem ZfX{s:List UInt8}{i:Nat}(h:i<s.length):(jc s i)[i]?=some s[i]:=by
 unfold jc;rw[zz (by simp;omega)];simp;rw[show min i s.length=i by omega];simp[h]
theorem ZfY{s:List UInt8}{i:Nat}(h:i<s.length):(jc s i).set i (dY s[i])=jc s (i+1):=by
 unfold jc;rw[xe _ _ (by simp;omega),zQ h];simp only[zj,zA];rw[show i-min i s.length=0 by omega,List.set_cons_zero,zB (by simpa using h),y9,zR]
 rfl
theorem Zdt{s:List UInt8}{i:Nat}(h:i<s.length)(hc:dY s[i]=s[i]):jc s i=jc s (i+1):=by
 unfold jc;rw[zQ h,zB (by simpa using h),y9,hc,zR]
 rfl
theorem ZfZ{s:List UInt8}{i:Nat}(h:i<s.length):((jc s i).map Sx.bytesRow)[i]?=some (Sx.bytesRow s[i]):=by
 rw[z7,ZfX h];rfl
theorem Zg0{s:List UInt8}{i:Nat}(h:i<s.length):((jc s i).map Sx.bytesRow).set i (Sx.bytesRow (dY s[i]))=(jc s (i+1)).map Sx.bytesRow:=by
 rw[<-xZ,ZfY h]
theorem Zij{c:UInt8}(h:65<=(c.toNat:Int)/\(c.toNat:Int)<=90):[SV.int .u8 (IntKind.u8.wrap ((c.toNat:Int)+32))]=Sx.bytesRow (dY c):=by
 unfold Sx.bytesRow dY;rw[z8 (by omega),Zk2 (by omega) (by omega),vL (by show c.toNat+32<256;omega)];simp
theorem Zik{c:UInt8}(h:¬(65<=(c.toNat:Int)/\(c.toNat:Int)<=90)):dY c=c:=by unfold dY;rw[z6 (by omega)]
end Go.Our
