/- Part 4: SxOpsJ, SxSound, SxSoundG, SxSpec, SxCall, SxUse, SxBack, SxAuto, Utf, TmM, SxAuto2, Utf2, Rune, IriM, NamesM, PartM. Conditions: as each part says. -/
import Derived.Tactics
import Derived.IntWalk
import Derived.Lib.Bytealg
import Derived.Test.YtlcbipfmodcedaaGreatDoorRfn2
import Derived.Test.YtlcbipfmodcedaaGreatDoorRfn3
set_option linter.unusedVariables false
set_option linter.unusedSimpArgs false
namespace Go.Sx
open Go
section
variable {M:Mx}{η:Env}{w:World}{O:Hps}{nx:Nat}{ρ:Operand->Value}{lk:Operand->Option SV}{v:SV}{O':Hps}{nx':Nat}{dst:Option Tmp}{ty:TypeId}{pos:String}{af:Array Edge}{gd:Option (Nat×Bool)}
theorem Zio(A:At M η w O nx ρ lk)(args:Array Operand)(ts:Array TypeId)(hr:(opR M.C lk O nx (.call ⟨.builtin .min,args,ts⟩)).ok O nx v O' nx'):Y3 M η w ⟨dst, .call ⟨.builtin .min,args,ts⟩,ty,pos,af,gd⟩ ρ v O' nx':=by
 simp only[opR,Vl,minR]at hr;split at hr
 case h_2=>exact hr.elim
 rename_i x y ha;obtain rfl:args= #[x,y]:=by apply Array.ext';simpa using ha
 split at hr
 case h_2=>exact hr.elim
 rename_i k a hx;split at hr
 case h_2=>exact hr.elim
 rename_i k' b hy;have h1:=V0 (A.L _ _ hx);have h2:=V0 (A.L _ _ hy);exact A.val hr ⟨.int k (if b<a then b else a), .inl (by simp[execOp,resolve,invoke,builtin,h1,h2,Builtin.min_,Builtin.min2]),rfl⟩
theorem Zip(A:At M η w O nx ρ lk)(args:Array Operand)(ts:Array TypeId)(hr:(opR M.C lk O nx (.call ⟨.builtin .max,args,ts⟩)).ok O nx v O' nx'):Y3 M η w ⟨dst, .call ⟨.builtin .max,args,ts⟩,ty,pos,af,gd⟩ ρ v O' nx':=by
 simp only[opR,Vl,maxR]at hr;split at hr
 case h_2=>exact hr.elim
 rename_i x y ha;obtain rfl:args= #[x,y]:=by apply Array.ext';simpa using ha
 split at hr
 case h_2=>exact hr.elim
 rename_i k a hx;split at hr
 case h_2=>exact hr.elim
 rename_i k' b hy;have h1:=V0 (A.L _ _ hx);have h2:=V0 (A.L _ _ hy);exact A.val hr ⟨.int k (if a<b then b else a), .inl (by simp[execOp,resolve,invoke,builtin,h1,h2,Builtin.max_,Builtin.max2]),rfl⟩
theorem Zga(A:At M η w O nx ρ lk)(t:TypeId)(x:Operand)(hr:(opR M.C lk O nx (.range t x)).ok O nx v O' nx'):Y3 M η w ⟨dst, .range t x,ty,pos,af,gd⟩ ρ v O' nx':=by
 simp only[opR,Zfm]at hr;split at hr
 case h_2=>exact hr.elim
 rename_i hs;obtain⟨d,hd,hm⟩:=A.T.und t (by rw[hs];simp);rw[hs]at hm;simp only[ShM]at hm;subst hm;split at hr
 case h_2=>exact hr.elim
 rename_i s hx;obtain⟨rfl,rfl,rfl⟩:=hr;have hxv:=Z1y (A.L _ _ hx);refine⟨.pointer (some ⟨w.heap.size,0,none⟩),X9 w (.stringIter ⟨s.toArray⟩ 0),η++ [some ⟨w.heap.size,0,0⟩], .inl ?_,List.prefix_append _ _,?_,?_,fun _ h=>absurd h (by simp)⟩
 ·simp[execOp,hxv,Instr.range,Z3 hd,X9]
 ·refine A.H.alloc (w':=X9 w (.stringIter ⟨s.toArray⟩ 0)) rfl rfl rfl rfl 0 0 ?_;simp only[HpSat];exact⟨_,ZL A.H.len _,rfl,Yy (w:=w) (w':=X9 w (.stringIter ⟨s.toArray⟩ 0)) rfl⟩
 ·simp only[Den];exact⟨_,ZL A.H.len _,by simp⟩
theorem Zhs(A:At M η w O nx ρ lk)(x:Operand)(b:Bool)(hr:(opR M.C lk O nx (.next x b)).ok O nx v O' nx'):Y3 M η w ⟨dst, .next x b,ty,pos,af,gd⟩ ρ v O' nx':=by
 simp only[opR,Zh9]at hr;split at hr
 case h_2=>exact hr.elim
 split at hr
 case h_2=>exact hr.elim
 rename_i i r es c hx;split at hr
 case h_2=>exact hr.elim
 rename_i s pos' hh;split at hr
 case h_2=>exact hr.elim
 rename_i hz;have hz:=Zn hz;have hxv:=A.L _ _ hx;simp only[Den,Env.get]at hxv;obtain⟨en,hb,hxv⟩:=hxv;obtain⟨hsat,_⟩:=A.H.own.1 i _ hh;simp only[HpSat,Env.get]at hsat;obtain⟨en',h1,h2,h3⟩:=hsat;rw[hb]at h1;injection h1 with h1;injection h1 with h1;subst h1
 rw[h2,hz]at hxv;simp only[Nat.zero_add]at hxv;have hlt:en.g<w.heap.size:=(Array.getElem?_eq_some_iff.1 h3).1;have hget:(getObj en.g).run M.P w= .ok (.stringIter ⟨s.toArray⟩ pos') w:=by simp[getObj,Sem.run,h3]
 simp only[Res.ok,decide_eq_true_eq]at hr;split at hr
 ·rename_i hp;obtain⟨rfl,rfl,rfl⟩:=hr;have hset:(setObj en.g (.stringIter ⟨s.toArray⟩ (pos'+(Utf8.decode ⟨s.toArray⟩ pos').2))).run M.P w= .ok () {w with heap:=w.heap.setIfInBounds en.g (.stringIter ⟨s.toArray⟩ (pos'+(Utf8.decode ⟨s.toArray⟩ pos').2))}:=by simp[setObj,Sem.run,h3]
  refine⟨.tuple #[.bool true, .int .i64 (pos':Int), .int .i32 ((Utf8.decode ⟨s.toArray⟩ pos').1:Int)],{w with heap:=w.heap.setIfInBounds en.g (.stringIter ⟨s.toArray⟩ (pos'+(Utf8.decode ⟨s.toArray⟩ pos').2))},η, .inl ?_,List.prefix_rfl,?_,?_,fun h=>by cases h⟩
  ·simp[execOp,hxv,Instr.next,hget,VE,hp,hset,goInt]
  ·refine A.H.upd hh hb (fun k hk=>?_) (by simp) rfl rfl rfl ?_
   ·simp[Array.getElem?_setIfInBounds,Ne.symm hk]
   ·simp only[HpSat,Env.get];exact⟨en,hb,h2,by simp[hlt]⟩
  ·simp only[Den,DenL];exact⟨_,rfl,_,_,rfl,rfl,_,_,rfl,rfl,_,_,rfl,rfl,rfl⟩
 ·rename_i hp;obtain⟨rfl,rfl,rfl⟩:=hr;refine A.same (u:= .tuple #[.bool false]) (.inl ?_) ?_ rfl rfl
  ·simp[execOp,hxv,Instr.next,hget,VE,hp]
  ·simp only[Den,DenL];exact⟨_,rfl,_,_,rfl,rfl,rfl⟩
theorem Z0m(l:List UInt8):(l.map bytesRow).map Z0U=l:=by
 rw[List.map_map];conv=>rhs;rw[<-List.map_id l]
 apply List.map_congr_left;intro b _;simp[bytesRow,Z0U]
theorem Z4F{η:Env}:∀{l:List UInt8} {news:List Value},DenLL η 1 (l.map bytesRow) news->news=l.map fun c=> .int .u8 (c.toNat:Int)
 | [],news,h=>by simpa[DenLL]using h
 |c::l,news,h=>by
  simp only[List.map_cons,DenLL]at h;obtain⟨us,ws,rfl,_,h1,h2⟩:=h;simp only[bytesRow,DenL,Den]at h1;obtain⟨u,us',rfl,rfl,rfl⟩:=h1;rw[Z4F h2];rfl
theorem Zce(A:At M η w O nx ρ lk)(a b:TypeId)(x:Operand)(hr:(opR M.C lk O nx (.convert a b x)).ok O nx v O' nx'):Y3 M η w ⟨dst, .convert a b x,ty,pos,af,gd⟩ ρ v O' nx':=by
 simp only[opR,Zh7]at hr;split at hr
 ·exact hr.elim
 rename_i hok;have hsa:M.C.T.sh a≠ .other:=by intro h;simp[okSh,h]at hok
 obtain⟨da,hda,hma⟩:=A.T.und a hsa
 have bytesd:∀{t e:TypeId},Z2z M.C.T t=some e->M.P.underlying t=some (.slice e)/\M.P.underlying e=some (.int .u8):=by
  intro t e h;unfold Z2z at h;split at h
  case h_2=>cases h
  rename_i q hq;split at h
  case h_2=>cases h
  rename_i hq';injection h with h;subst h;obtain⟨d,hd,hm⟩:=A.T.und t (by rw[hq];simp);rw[hq]at hm;simp only[ShM]at hm;subst hm;obtain⟨d,hd',hm⟩:=A.T.und q (by rw[hq'];simp);rw[hq']at hm;simp only[ShM]at hm;subst hm;exact⟨hd,hd'⟩
 split at hr
 ·rename_i k n hx;have hxv:=V0 (A.L _ _ hx);split at hr
  case h_3=>exact hr.elim
  ·rename_i k' hs;obtain⟨d,hd,hm⟩:=A.T.und b (by rw[hs];simp);rw[hs]at hm;simp only[ShM]at hm;subst hm;refine A.val hr ⟨.int k' (k'.wrap n), .inl ?_,rfl⟩
   have:(convert a b (.int k n)).run M.P w= .ok (.int k' (k'.wrap n)) w:=by
    simp only[convert,Sem.run_bind,Z3 hda,Z3 hd,Result.andThen_ok];cases da<;>rfl
   simp[execOp,hxv,this]
  ·rename_i hs;obtain⟨d,hd,hm⟩:=A.T.und b (by rw[hs];simp);rw[hs]at hm;simp only[ShM]at hm;subst hm;refine A.val hr ⟨.string (Utf8.encode n), .inl ?_,rfl⟩
   have:(convert a b (.int k n)).run M.P w= .ok (.string (Utf8.encode n)) w:=by
    simp only[convert,Sem.run_bind,Z3 hda,Z3 hd,Result.andThen_ok];cases da<;>rfl
   simp[execOp,hxv,this]
 ·rename_i s hx;have hxv:=Z1y (A.L _ _ hx);split at hr
  ·rename_i hs;obtain⟨d,hd,hm⟩:=A.T.und b (by rw[hs];simp);rw[hs]at hm;simp only[ShM]at hm;subst hm;refine A.val hr ⟨.string ⟨s.toArray⟩, .inl ?_,rfl⟩
   have:(convert a b (.string ⟨s.toArray⟩)).run M.P w= .ok (.string ⟨s.toArray⟩) w:=by
    simp only[convert,Sem.run_bind,Z3 hda,Z3 hd,Result.andThen_ok];cases da<;>rfl
   simp[execOp,hxv,this]
  ·split at hr
   case h_2=>exact hr.elim
   rename_i e he;obtain⟨hd,hd'⟩:=bytesd he;split at hr
   case h_2=>exact hr.elim
   rename_i hsz;have hsz:=Zn hsz;split at hr
   case h_2=>exact hr.elim
   rename_i hsrc;obtain⟨da',hda',hma'⟩:=A.T.und a (by rw[hsrc];simp);rw[hsrc]at hma';simp only[ShM]at hma';subst hma';obtain⟨hlen,rfl,rfl,rfl⟩:=hr;have hrun:=run_bytes_of_string (P:=M.P) w a b e ⟨s.toArray⟩ hda' hd hd';rw[VE]at hrun;have hge:=grownCap_ge w s.length 0 e;have hbs:(Go.bytesRow ⟨s.toArray⟩ (grownCap w s.length 0 e)).size=grownCap w s.length 0 e:=by simp[Go.bytesRow,VE];omega
   refine⟨_,w.drew.alloc (.cells (Go.bytesRow ⟨s.toArray⟩ (grownCap w s.length 0 e)) e ((Go.bytesRow ⟨s.toArray⟩ (grownCap w s.length 0 e)).size,(Go.bytesRow ⟨s.toArray⟩ (grownCap w s.length 0 e)).size+1)),η++ [some ⟨w.heap.size,0,grownCap w s.length 0 e⟩],
    .inl (by simp only[execOp,hxv,Sem.run_bind,hrun,Result.andThen_ok,Sem.run_pure]),List.prefix_append _ _,?_,UK A.H.len hge,fun _ h=>absurd h (by simp)⟩
   refine HeapOK.alloc (w':=w.drew.alloc (.cells (Go.bytesRow ⟨s.toArray⟩ (grownCap w s.length 0 e)) e ((Go.bytesRow ⟨s.toArray⟩ (grownCap w s.length 0 e)).size,(Go.bytesRow ⟨s.toArray⟩ (grownCap w s.length 0 e)).size+1))) A.H rfl rfl rfl rfl 0 _ ?_;simp only[HpSat];right
   refine⟨_,Go.bytesRow ⟨s.toArray⟩ (grownCap w s.length 0 e),e,((Go.bytesRow ⟨s.toArray⟩ (grownCap w s.length 0 e)).size,(Go.bytesRow ⟨s.toArray⟩ (grownCap w s.length 0 e)).size+1),ZL A.H.len _,Yy (w:=w) (o:= .cells (Go.bytesRow ⟨s.toArray⟩ (grownCap w s.length 0 e)) e ((Go.bytesRow ⟨s.toArray⟩ (grownCap w s.length 0 e)).size,(Go.bytesRow ⟨s.toArray⟩ (grownCap w s.length 0 e)).size+1)) rfl,fun _=>⟨?_,by rw[hbs,Nat.mul_one],by simpa using hge,rfl⟩,?_⟩
   ·intro o ho h;omega
   ·intro k row hk;rw[List.getElem?_map]at hk;cases hq:s[k]? with
    |none=>rw[hq]at hk;cases hk
    |some c=>
     rw[hq]at hk;injection hk with hk;subst hk;refine⟨rfl,fun j sv hj=>?_⟩;cases j with
     |succ j=>simp[bytesRow]at hj
     |zero=>
      simp[bytesRow]at hj;subst hj;have hkl:=(List.getElem?_eq_some_iff.1 hq).1;refine⟨.int .u8 (c.toNat:Int),?_,rfl,rfl⟩;simp only[Go.bytesRow,Nat.zero_add,Nat.mul_one,Nat.add_zero];rw[Array.getElem?_append_left (by simpa using hkl)];simp[hq]
 ·rename_i bb r es len lim hx;split at hr
  case h_2=>exact hr.elim
  rename_i hs;obtain⟨d,hd,hm⟩:=A.T.und b (by rw[hs];simp);rw[hs]at hm;simp only[ShM]at hm;subst hm;split at hr
  case h_2=>exact hr.elim
  rename_i e he;obtain⟨hd1,hd2⟩:=bytesd he;split at hr
  case h_2=>exact hr.elim
  rename_i xs m hrows;obtain⟨⟨hl,l,hxl⟩,hr⟩:=hr;have hxd:=A.L _ _ hx;obtain⟨news,N⟩:=Xm A hxd hrows hl
  have hm:m=len:=by
   unfold Z49 at hrows;simp only at hrows;split at hrows
   case h_2=>cases hrows
   split at hrows
   case h_2=>cases hrows
   split at hrows
   case h_2=>cases hrows
   simp only[Option.some.injEq,Prod.mk.injEq]at hrows;exact hrows.2.symm
  subst hm;subst hxl;rw[Z0m]at hr;refine A.val hr ⟨.string ⟨l.toArray⟩, .inl ?_,rfl⟩;have hnews:=Z4F N.den;have hf:=N.first w rfl;simp only[List.length_map]at hl;simp only[Den]at hxd;rcases hxd with⟨_,hxv,h0⟩|⟨en,o,_,hxv,_⟩
  ·subst h0;have:l=[]:=List.length_eq_zero_iff.1 hl;subst this;simp[execOp,hxv,convert,Z3 hd1,Z3 hd,Z3 hd2,Conv.bytesToString]
   rfl
  ·rw[hxv]at hf;simp only[Builtin.firstCells,Nat.mul_one]at hf
   have hconv:(convert a b (.slice (some ⟨en.g,o,none⟩) m (lim.getD en.cap-r))).run M.P w= .ok (.string ⟨l.toArray⟩) w:=by
    rw[run_convert_bytes_string w a b e _ m _ hd1 hd2 hd]
    have hf':(loadCells ⟨en.g,o,none⟩ m).run M.P w= .ok ((l.map (fun c=>(c.toNat:Int))).map (Value.int .u8)).toArray w:=by
     rw[hf,hnews];simp
    rw[run_bytesToString w _ m _ _ hf',foldl_push_byteCells];simp
   simp[execOp,hxv,hconv]
 ·rename_i hx;obtain⟨hxv,_⟩:ρ x= .slice none 0 0/\True:=⟨And.left (A.L _ _ hx),trivial⟩;split at hr
  case h_2=>exact hr.elim
  rename_i hs;obtain⟨d,hd,hm⟩:=A.T.und b (by rw[hs];simp);rw[hs]at hm;simp only[ShM]at hm;subst hm;split at hr
  case h_2=>exact hr.elim
  rename_i e he;obtain⟨hd1,hd2⟩:=bytesd he;refine A.val hr ⟨.string ⟨[].toArray⟩, .inl ?_,rfl⟩;simp[execOp,hxv,convert,Z3 hd1,Z3 hd,Z3 hd2,Conv.bytesToString]
  rfl
 ·exact hr.elim
theorem Zht(A:At M η w O nx ρ lk)(args:Array Operand)(ts:Array TypeId)(hr:(opR M.C lk O nx (.call ⟨.builtin .copy,args,ts⟩)).ok O nx v O' nx'):Y3 M η w ⟨dst, .call ⟨.builtin .copy,args,ts⟩,ty,pos,af,gd⟩ ρ v O' nx':=by
 simp only[opR,Vl,Zhb]at hr;split at hr
 case h_2=>exact hr.elim
 rename_i dd x ha;obtain rfl:args= #[dd,x]:=by apply Array.ext';simpa using ha
 split at hr
 case h_2=>exact hr.elim
 rename_i t u htu;obtain rfl:ts= #[t,u]:=by apply Array.ext';simpa using htu
 split at hr
 case h_2=>exact hr.elim
 rename_i e hst;obtain⟨d,hd,hm⟩:=A.T.und t (by rw[hst];simp);rw[hst]at hm;simp only[ShM]at hm;subst hm;split at hr
 ·exact hr.elim
 rename_i hok;have hsh:M.C.T.sh e≠ .other:=by intro h;simp[okSh,h]at hok
 obtain⟨ie,hie,hies,_⟩:=A.T.info e hsh;split at hr
 case h_2=>exact hr.elim
 rename_i i r es n lim hdv;have hdd:=A.L _ _ hdv;split at hr
 ·exact hr.elim
 rename_i xsv hx;have hxd:=A.L _ _ hx;split at hr
 ·exact hr.elim
 rename_i xs m hrows;split at hr
 case h_2=>exact hr.elim
 rename_i es' rs hh;split at hr
 case h_2=>exact hr.elim
 rename_i h1;have h1:=Zn h1;subst h1;split at hr
 case h_2=>exact hr.elim
 rename_i h2;have h2:=Zn h2;subst h2;obtain⟨⟨q1,q2,q3⟩,rfl,rfl,rfl⟩:=hr;obtain⟨news,N⟩:=Xm A hxd hrows q1;obtain⟨hsat,_⟩:=A.H.own.1 i _ hh;simp only[HpSat,Env.get]at hsat;have hmin:Nat.min m n=m:=Nat.min_eq_left q2;have hd1:=N.first w rfl
 have fin:∀{w':World},(Builtin.copy_ #[t,u] ty #[ρ dd,ρ x]).run M.P w= .ok (.int .i64 m) w'->Z1x M.P ⟨dst, .call ⟨.builtin .copy, #[dd,x], #[t,u]⟩,ty,pos,af,gd⟩ ρ w (.int .i64 m) w':=by
  intro w' h;exact .inl (by simp[execOp,resolve,invoke,builtin,h])
 simp only[Den,Env.get]at hdd;rcases hdd with⟨p1,hdv',p3⟩|⟨en,o,p1,hdv',p3,p4,p5⟩
 ·rcases hsat with⟨p6,rfl⟩|⟨en',arr,T,fz,p6,_⟩
  case inr=>rw[p1]at p6;cases p6
  subst p3;have hm0:m=0:=by omega
  subst hm0;have hx0:xs=[]:=List.length_eq_zero_iff.1 q1;subst hx0;refine⟨_,w,η,fin ?_,List.prefix_rfl,?_,rfl,fun h=>by cases h⟩
  ·simp[hdv',Builtin.copy_,Z3 hd,N.lenOf,Zq hie,hies,hd1,goInt]
  ·refine{pre:=A.H.pre,len:=A.H.len,fr:=A.H.fr,sok:=A.H.sok,own:=⟨fun j g hj=>?_,fun j k g g' m hj hk hne f f'=>?_⟩}
   ·rw[ZX i _ O j (by rw[hh];rfl)]at hj;split at hj
    ·rename_i e;subst e;injection hj with hj;subst hj
     exact⟨Or.inl ⟨p1,by simp⟩,fun k f=>(feet.none (b:= .loc j) p1 f).elim⟩
    ·exact A.H.own.1 j g hj
   ·have aux:∀(j:Nat) (g:Hp) (m:Nat),feet η w (.loc j) g m->lkp j (setK i (.rows (M.C.T.size e) (List.take r []++ []++List.drop (r+0) [])) O)=some g->lkp j O=some g:=by
     intro j g m f hj;rw[ZX i _ O j (by rw[hh];rfl)]at hj;split at hj
     ·rename_i e;subst e;exact(feet.none (b:= .loc j) p1 f).elim
     ·exact hj
    exact A.H.own.2 j k g g' m (aux j g m f hj) (aux k g' m f' hk) hne f f'
 ·rcases hsat with⟨p6,_⟩|⟨en',arr,T,fz,p6,p7,p8,p9⟩
  ·rw[p1]at p6;cases p6
  rw[p1]at p6;injection p6 with p6;injection p6 with p6;subst p6
  obtain⟨p8u,p8s,p8c,p8b⟩:=p8 trivial;rw[p8b]at p9;obtain⟨r1,r2⟩:=Z0j p8s (r:=r) (xs:=xs) (by omega) (by omega) p9 N.den N.one;by_cases hm0:m=0
  ·subst hm0;have hx0:xs=[]:=List.length_eq_zero_iff.1 q1;have hn0:news=[]:=by apply List.length_eq_zero_iff.1;rw[N.len];omega
   subst hx0 hn0;refine⟨_,w,η,fin ?_,List.prefix_rfl,?_,rfl,fun h=>by cases h⟩
   ·simp[hdv',Builtin.copy_,Z3 hd,N.lenOf,Zq hie,hies,hd1,goInt,storeCells]
   ·refine A.H.upd hh p1 (fun k _=>rfl) rfl rfl rfl rfl ?_;simp only[HpSat,Env.get];right
    exact⟨en,arr,T,fz,p1,p7,fun _=>⟨p8u,p8s,by simpa using p8c,p8b⟩,by rw[p8b];simpa using p9⟩
  ·have ho:=p5 (.inl (by omega));rw[p8b,Nat.zero_add]at ho;subst ho;have hst:=X3 (P:=M.P) en.g (r*M.C.T.size e) T fz news 0 arr w p7 (by simpa using r1) p8u N.one;simp only[Nat.add_zero]at hst
   have hsz':(arr.toList.take (r*M.C.T.size e)++news++arr.toList.drop (r*M.C.T.size e+news.length)).toArray.size=arr.size:=by
    simp only[List.size_toArray,List.length_append,List.length_take,List.length_drop,Array.length_toList];omega
   refine⟨_,w.setRow en.g (arr.toList.take (r*M.C.T.size e)++news++arr.toList.drop (r*M.C.T.size e+news.length)).toArray,η,fin ?_,List.prefix_rfl,A.H.upd hh p1 (fun k hk=>setRow_other w en.g k _ hk) (setRow_size _ _ _) rfl rfl rfl ?_,rfl,fun h=>by cases h⟩
   ·simp[hdv',Builtin.copy_,Z3 hd,N.lenOf,Zq hie,hies,hmin,hd1,hst,goInt]
   ·simp only[HpSat,Env.get];right
    refine⟨en,_,T,fz,p1,setRow_heap w en.g arr _ T fz p7,fun _=>⟨by rw[hsz'];exact p8u,by rw[hsz'];exact p8s,?_,p8b⟩,by rw[p8b,<-q1];exact r2⟩;simp only[List.length_append,List.length_take,List.length_drop];omega
theorem Zgb(A:At M η w O nx ρ lk)(args:Array Operand)(ts:Array TypeId)(hr:(opR M.C lk O nx (.call ⟨.builtin .clear,args,ts⟩)).ok O nx v O' nx'):Y3 M η w ⟨dst, .call ⟨.builtin .clear,args,ts⟩,ty,pos,af,gd⟩ ρ v O' nx':=by
 simp only[opR,Vl,Zfn]at hr;split at hr
 case h_2=>exact hr.elim
 rename_i dd ha;obtain rfl:args= #[dd]:=by apply Array.ext';simpa using ha
 split at hr
 case h_2=>exact hr.elim
 rename_i t htu;obtain rfl:ts= #[t]:=by apply Array.ext';simpa using htu
 split at hr
 case h_2=>exact hr.elim
 rename_i e hst;obtain⟨d,hd,hm⟩:=A.T.und t (by rw[hst];simp);rw[hst]at hm;simp only[ShM]at hm;subst hm;split at hr
 ·exact hr.elim
 rename_i c cs hz;have hsh:M.C.T.sh e≠ .other:=A.T.zsh e (by rw[hz];simp);obtain⟨ie,z,h1,h2,h3,h4,h5,_⟩:=A.T.zero e hsh (by rw[hz];simp);rw[hz]at h3 h5;have h3:=DenL.mono (η':=η) List.nil_prefix h3;have hzl:z.cells.toList.length=M.C.T.size e:=by have:=ZP h3;rw[h5]at this;exact this
 split at hr
 case h_2=>exact hr.elim
 rename_i i r es n lim hdv;have hdd:=A.L _ _ hdv;split at hr
 case h_2=>exact hr.elim
 rename_i es' rs hh;split at hr
 case h_2=>exact hr.elim
 rename_i g1;have g1:=Zn g1;subst g1;split at hr
 case h_2=>exact hr.elim
 rename_i g2;have g2:=Zn g2;subst g2;obtain⟨q3,rfl,rfl,rfl⟩:=hr;obtain⟨hsat,_⟩:=A.H.own.1 i _ hh;simp only[HpSat,Env.get]at hsat
 have fin:∀{w':World},(Builtin.clear_ #[t] ty #[ρ dd]).run M.P w= .ok (.tuple #[]) w'->Z1x M.P ⟨dst, .call ⟨.builtin .clear, #[dd], #[t]⟩,ty,pos,af,gd⟩ ρ w (.tuple #[]) w':=by
  intro w' h;exact .inl (by simp[execOp,resolve,invoke,builtin,h])
 have hden:∀η,Den η (.tup []) (.tuple #[]):=fun η=>by simp only[Den,DenL];exact⟨[],rfl,rfl⟩
 simp only[Den,Env.get]at hdd;rcases hdd with⟨p1,hdv',p3⟩|⟨en,o,p1,hdv',p3,p4,p5⟩
 ·rcases hsat with⟨p6,rfl⟩|⟨en',arr,T,fz,p6,_⟩
  case inr=>rw[p1]at p6;cases p6
  subst p3;refine⟨_,w,η,fin ?_,List.prefix_rfl,?_,hden _,fun h=>by cases h⟩
  ·simp[hdv',Builtin.clear_,Z3 hd]
  ·refine{pre:=A.H.pre,len:=A.H.len,fr:=A.H.fr,sok:=A.H.sok,own:=⟨fun j g hj=>?_,fun j k g g' m hj hk hne f f'=>?_⟩}
   ·rw[ZX i _ O j (by rw[hh];rfl)]at hj;split at hj
    ·rename_i e;subst e;injection hj with hj;subst hj
     exact⟨Or.inl ⟨p1,by simp⟩,fun k f=>(feet.none (b:= .loc j) p1 f).elim⟩
    ·exact A.H.own.1 j g hj
   ·have aux:∀(j:Nat) (g:Hp) (m:Nat),feet η w (.loc j) g m->lkp j (setK i (.rows (M.C.T.size e) (List.take r []++List.replicate 0 (c::cs)++List.drop (r+0) [])) O)=some g->lkp j O=some g:=by
     intro j g m f hj;rw[ZX i _ O j (by rw[hh];rfl)]at hj;split at hj
     ·rename_i e;subst e;exact(feet.none (b:= .loc j) p1 f).elim
     ·exact hj
    exact A.H.own.2 j k g g' m (aux j g m f hj) (aux k g' m f' hk) hne f f'
 ·rcases hsat with⟨p6,_⟩|⟨en',arr,T,fz,p6,p7,p8,p9⟩
  ·rw[p1]at p6;cases p6
  rw[p1]at p6;injection p6 with p6;injection p6 with p6;subst p6
  obtain⟨p8u,p8s,p8c,p8b⟩:=p8 trivial;rw[p8b]at p9;have hLL:=Z2W h3 hzl n;have hone:=Z2R h4 n;have hxl:(List.replicate n (c::cs)).length=n:=List.length_replicate;obtain⟨r1,r2⟩:=Z0j p8s (r:=r) (xs:=List.replicate n (c::cs)) (by omega) (by omega) p9 hLL hone;by_cases hn0:n=0
  ·subst hn0;refine⟨_,w,η,fin ?_,List.prefix_rfl,?_,hden _,fun h=>by cases h⟩
   ·simp[hdv',Builtin.clear_,Z3 hd]
   ·refine A.H.upd hh p1 (fun k _=>rfl) rfl rfl rfl rfl ?_;simp only[HpSat,Env.get];right
    exact⟨en,arr,T,fz,p1,p7,fun _=>⟨p8u,p8s,by simpa using p8c,p8b⟩,by rw[p8b];simpa using p9⟩
  ·have ho:=p5 (.inl (by omega));rw[p8b,Nat.zero_add]at ho;subst ho;have hst:=X3 (P:=M.P) en.g (r*M.C.T.size e) T fz (XT z.cells.toList n) 0 arr w p7 (by simpa using r1) p8u hone;simp only[Nat.add_zero]at hst
   have hzc:(Builtin.zeroCells z.cells n).toList=XT z.cells.toList n:=by
    unfold Builtin.zeroCells;exact U5 z.cells n _ (by simp[Nat.mul_comm])
   have hsz':(arr.toList.take (r*M.C.T.size e)++XT z.cells.toList n++arr.toList.drop (r*M.C.T.size e+(XT z.cells.toList n).length)).toArray.size=arr.size:=by
    simp only[List.size_toArray,List.length_append,List.length_take,List.length_drop,Array.length_toList];omega
   refine⟨_,w.setRow en.g (arr.toList.take (r*M.C.T.size e)++XT z.cells.toList n++arr.toList.drop (r*M.C.T.size e+(XT z.cells.toList n).length)).toArray,η,fin ?_,List.prefix_rfl,A.H.upd hh p1 (fun k hk=>setRow_other w en.g k _ hk) (setRow_size _ _ _) rfl rfl rfl ?_,hden _,fun h=>by cases h⟩
   ·obtain⟨n,rfl⟩:∃m,n=m+1:=⟨n-1,by omega⟩;simp[hdv',Builtin.clear_,Z3 hd,XW h1 h2,hzc,hst]
   ·simp only[HpSat,Env.get];right
    refine⟨en,_,T,fz,p1,setRow_heap w en.g arr _ T fz p7,fun _=>⟨by rw[hsz'];exact p8u,by rw[hsz'];exact p8s,?_,p8b⟩,by rw[p8b];rw[hxl]at r2;exact r2⟩;simp only[List.length_append,List.length_take,List.length_drop,List.length_replicate];omega
theorem Z5t(A:At M η w O nx ρ lk)(o:Oper)(hr:(opR M.C lk O nx o.op).ok O nx v O' nx'):Y3 M η w o ρ v O' nx':=by
 obtain⟨dst,op,ty,pos,af,gd⟩:=o;cases op with
 |move x=>exact Zho A x hr
 |assign x=>exact Ze9 A x hr
 |pick c a b=>exact Zhp A c a b hr
 |alloc e=>exact Zg6 A e hr
 |box e x=>exact Zin A e x hr
 |build t ps=>exact Zg7 A t ps hr
 |buildSlice t l ps=>exact Z6H A t l ps hr
 |load t x=>exact Zhr A t x hr
 |store t x y=>exact Zg9 A t x y hr
 |nilCheck x=>exact ZaE A x hr
 |binOp op t x y u=>exact Zg3 A op t u x y hr
 |unOp op t x=>exact Zhq A op t x hr
 |convert s d x=>exact Zce A s d x hr
 |makeInterface t x=>exact Z2K A t x hr
 |makeFunc f a b=>exact ZaF A f a b hr
 |makeSlice t l c=>exact Z8o A t l c hr
 |slice t x lo hi mx=>exact Zg4 A t x lo hi mx hr
 |fieldAddr s x f=>exact Z8l A s x f hr
 |field t x f=>exact Zg1 A t x f hr
 |indexAddr t x i=>exact Z8k A t x i hr
 |index t x i=>exact Zg2 A t x i hr
 |makeMap t r=>exact Zc8 A t r hr
 |lookup t x i ok=>exact Zeg A t x i ok hr
 |mapUpdate t m k x=>exact Z2Y A t m k x hr
 |insert t m k x=>exact Zeh A t m k x hr
 |mapEntry t m k=>exact ZaJ A t m k hr
 |entryStore t m k x=>exact Z6N A t m k x hr
 |range t x=>exact Zga A t x hr
 |next x b=>exact Zhs A x b hr
 |extract x i=>exact Zc0 A x i hr
 |typeAssert x t u ok=>exact Zea A x t u ok hr
 |call c=>
  obtain⟨callee,args,ts⟩:=c;cases callee with
  |builtin b=>
   cases b with
   |len=>exact Zil A args ts hr
   |append=>exact Zef A args ts hr
   |cap=>exact Zim A args ts hr
   |min=>exact Zio A args ts hr
   |max=>exact Zip A args ts hr
   |copy=>exact Zht A args ts hr
   |clear=>exact Zgb A args ts hr
   |_=>exact hr.elim
  |_=>exact hr.elim
 |_=>exact hr.elim
end
end Go.Sx
namespace Go.Sx
open Go
section
variable {M:Mx}{η:Env}{w:World}{O:Hps}{nx:Nat}
theorem FrOK.mono{η η':Env}{a:Act}{fr:Fr}(h:η<+:η')(k:FrOK η a fr):FrOK η' a fr:=fun t sv ht=>(k t sv ht).mono h
theorem Z9B{a:Act}{d:Nat}{u:Value}(h:d<a.tmps.size):(a.put (some d) u).tmps.getD d undef=u:=by
 simp[Act.put,Array.getD,h]
theorem Z31{a:Act}{d t:Nat}{u:Value}(h:t≠d):(a.put (some d) u).tmps.getD t undef=a.tmps.getD t undef:=by
 simp only[Act.put,Array.getD_eq_getD_getElem?];rw[Array.getElem?_setIfInBounds,if_neg (Ne.symm h)]
theorem Z5u{a:Act}{d:Option Tmp}{u:Value}:(a.put d u).tmps.size=a.tmps.size:=by
 cases d<;>simp[Act.put]
theorem put_defers{a:Act}{d:Option Tmp}{u:Value}:(a.put d u).defers=a.defers:=by
 cases d<;>simp[Act.put]
theorem FrOK.put{a:Act}{fr:Fr}{d:Nat}{u:Value}{v:SV}(k:FrOK η a fr)(hd:d<a.tmps.size)(hv:Den η v u):FrOK η (a.put (some d) u) ((d,v)::fr):=by
 intro t sv ht;rw[Z6]at ht;split at ht
 ·rename_i e;subst e;injection ht with ht;subst ht
  rw[Z9B hd];exact hv
 ·rename_i e;rw[Z31 e];exact k t sv ht
theorem FrOK.know{a:Act}{fr:Fr}{d:Nat}{v:SV}(k:FrOK η a fr)(hv:Den η v (a.tmps.getD d undef)):FrOK η a ((d,v)::fr):=by
 intro t sv ht;rw[Z6]at ht;split at ht
 ·rename_i e;subst e;injection ht with ht;subst ht;exact hv
 ·exact k t sv ht
theorem Z5v{N:Nat}{d:Nat}(h:JZ N (some d)=true):d<N:=by
 simpa[JZ]using h
def Zcf:SV->Bool
 | .dfs _=>false
 |_=>true
theorem DfOK.other{η:Env}{ds:List Deferred}{v:SV}(h:Zcf v=true):DfOK η ds (some v)<->ds=[]:=by
 cases v<;>first|exact Iff.rfl|cases h
theorem Models.know{fr:Fr}{a:Act}(K:Models M η fr O nx a w){s:Nat}{u v:SV}(hs:lkp s fr=some u)(hu:Zcf u=true)(hv:Zcf v=true)(hd:Den η v (a.tmps.getD s undef)):Models M η ((s,v)::fr) O nx a w:=by
 refine⟨K.heap,K.size,K.nds,?_,K.ro,K.frame.know hd⟩;have h:=K.defers;rw[Z6];split
 ·rename_i e;rw[e,hs,DfOK.other hu]at h;rw[DfOK.other hv];exact h
 ·exact h
theorem ZfA{N d:Nat}{v:SV}{fr:Fr}(hd:JZ N (some d)=true)(hN:N<=DS):lkp DS ((d,v)::fr)=lkp DS fr:=by
 have h1:=Z5v hd;have h2:DS≠d:=fun e=>Nat.lt_irrefl _ (Nat.lt_of_lt_of_le (e▸h1) hN);rw[Z6,if_neg h2]
theorem U7{η η':Env}(hp:η<+:η')(h:∀l j,M.C.ro=some (l,j)->∃e,η[j]?=some (some e)/\e.g=l):∀l j,M.C.ro=some (l,j)->∃e,η'[j]?=some (some e)/\e.g=l:=fun l j hj=>
 let⟨e,h1,h2⟩:=h l j hj;⟨e,Env.get_mono (b:= .loc j) hp h1,h2⟩
theorem Models.put{fr:Fr}{a:Act}(K:Models M η fr O nx a w){η':Env}{O':Hps}{nx':Nat}{w':World}{d:Option Tmp}{u:Value}{v:SV}(hd:JZ M.C.N d=true)(hp:η<+:η')(hH:HeapOK M η' w' O' nx')(hv:Den η' v u){Kp:Fr->Prop}(hk:putK d v fr Kp):
 ∃fr',Kp fr'/\Models M η' fr' O' nx' (a.put d u) w':=by
 cases d with
 |none=>exact⟨fr,hk,hH,by rw[Z5u];exact K.size,K.nds,by rw[put_defers];exact K.defers.mono hp,U7 hp K.ro,K.frame.mono hp⟩
 |some d=>
  refine⟨(d,v)::fr,hk,hH,by rw[Z5u];exact K.size,K.nds,by rw[put_defers,ZfA hd K.nds];exact K.defers.mono hp,U7 hp K.ro,(K.frame.mono hp).put ?_ hv⟩;rw[K.size];exact Z5v hd
theorem Z20{P:Program}{o:Oper}{ρ:Operand->Value}{w w':World}{u:Value}(h:Z1x P o ρ w u w'):∀c,o.op≠ .defer c:=by
 intro c hc
 have key:∀(n:Next) (w':World),(∀d,n≠ .defer d)->(execOp ρ o).run P w≠ .ok n w':=by
  intro n w' hn he;simp only[execOp,hc,Sem.run_bind]at he;cases hr:(resolve ρ c o.type).run P w with
  |ok d w1=>
   rw[hr]at he;simp only[Result.andThen,Sem.run_pure]at he;injection he with he _;exact hn d he.symm
  |halt x w1=>rw[hr]at he;simp only[Result.andThen]at he;cases he
 rcases h with h|⟨h,_⟩
 ·exact key _ _ (fun d e=>by cases e) h
 ·exact key _ _ (fun d e=>by cases e) h
theorem Z10{ro:Option Nat}{ρ:Operand->Value}{o:Oper}{c:Call}(h:o.op= .call c):o.semAt ro ρ=execOp ρ o:=Oper.semAt_eq _ _ _ fun c' hc=>by rw[h]at hc;cases hc
theorem Z32{P:Program}{o:Oper}{a:Act}{w w':World}{u:Value}{next:Act->World->Prop}{Q:Exit->Act->World->Prop}{F:Fence}(hF:∀f,F.fn f)(h:Z1x P o a.eval w u w')(hn:next (a.put o.dst u) w'):o.wpIn F 0 P a w next Q:=by
 refine⟨fun f _=>hF f,?_⟩;rw[Oper.semAt_eq _ _ _ (Z20 h)];rcases h with h|⟨h,rfl⟩
 ·rw[h];exact hn
 ·rw[h];exact hn
theorem Z04{lk:Operand->Option SV}{ρ:Operand->Value}{xs:List Operand}{svs:List SV}(hl:∀x sv,lk x=some sv->Den η sv (ρ x))(h:optAll lk xs=some svs):DenL η svs (xs.map ρ):=Z0W hl h
theorem Zcg{o:Oper}{a:Act}{c:Call}{lk:Operand->Option SV}{f:FuncId}{args:List SV}{K:SV->Hps->Nat->Prop}{next:Act->World->Prop}{Q:Exit->Act->World->Prop}(ho:o.op= .call c)(H:HeapOK M η w O nx)(hl:∀x sv,lk x=some sv->Den η sv (a.eval x))
 (hc:U4 lk c=some (f,args)) (hC:CALL M f args O nx K) (hn:∀v r O' nx' η' w',η<+:η'->HeapOK M η' w' O' nx'->Den η' r v->K r O' nx'->next (a.put o.dst v) w'):o.wpIn M.fence 0 M.P a w next Q:=by
 unfold U4 at hc;split at hc
 case h_2=>cases hc
 rename_i ff hcal;split at hc
 case h_2=>cases hc
 rename_i f' first cap args' hf hargs;simp only[Option.some.injEq,Prod.mk.injEq]at hc;obtain⟨rfl,rfl⟩:=hc;have hfd:=hl _ _ hf;simp only[Den]at hfd;obtain⟨us,vs,hfv,h1,h2⟩:=hfd;have hall:=YW (YW h1 (Z04 hl hargs)) h2
 have hexec:(execOp a.eval o).run M.P w=(callFunc f' ⟨us++c.args.toList.map a.eval++vs⟩).run M.P w:=by
  have:(⟨us⟩++c.args.map a.eval++⟨vs⟩:Array Value)=⟨us++c.args.toList.map a.eval++vs⟩:=by apply Array.ext';simp
  rw[<-this];simp[execOp,ho,resolve,hcal,hfv,Deferred.ofValue,invoke]
 refine⟨fun f _=>M.all f,?_⟩;rw[Z10 ho,hexec];rcases hC.out η w _ H hall with⟨g,hg,hcalls⟩|⟨v,w',hv,r,O',nx',η',h3,h4,h5,h6⟩
 ·rw[hg];refine⟨(fun h=>by cases h),?_⟩;have hcalls:CallsIn M.fence (0-1) M.P g _ w _:=callsIn_wide.2 hcalls;refine hcalls.mono fun e w' he=>?_;obtain⟨v,rfl,r,O',nx',η',h3,h4,h5,h6⟩:=he;exact hn v r O' nx' η' w' h3 h4 h5 h6
 ·rw[hv];exact hn v r O' nx' η' w' h3 h4 h5 h6
theorem Zei{o:Oper}{a:Act}{c:Call}{lk:Operand->Option SV}{j:Nat}{args:List SV}{K:SV->Hps->Nat->Prop}{next:Act->World->Prop}{Q:Exit->Act->World->Prop}(ho:o.op= .call c)(H:HeapOK M η w O nx)(hl:∀x sv,lk x=some sv->Den η sv (a.eval x))
 (hc:Z2C lk c=some (j,args)) (hC:YIELD M j args O nx K) (hn:∀v r O' nx' η' w',η<+:η'->HeapOK M η' w' O' nx'->Den η' r v->K r O' nx'->next (a.put o.dst v) w'):o.wpIn M.fence 0 M.P a w next Q:=by
 unfold Z2C at hc;split at hc
 case h_2=>cases hc
 rename_i ff hcal;split at hc
 case h_2=>cases hc
 rename_i j' args' hf hargs;simp only[Option.some.injEq,Prod.mk.injEq]at hc;obtain⟨rfl,rfl⟩:=hc;have hfd:=hl _ _ hf;simp only[Den]at hfd;obtain⟨e,he,hfv⟩:=hfd;have hall:=Z04 hl hargs;obtain⟨fn,tmps,asg,body,hy,hr⟩:=hC.out η w _ e H hall he
 have hexec:(execOp a.eval o).run M.P w=(Instr.yield e.g ⟨c.args.toList.map a.eval⟩).run M.P w:=by
  have:(#[]++c.args.map a.eval:Array Value)=⟨c.args.toList.map a.eval⟩:=by apply Array.ext';simp
  rw[<-this];simp[execOp,ho,resolve,hcal,hfv,Deferred.ofValue,invoke]
 refine⟨fun f _=>M.all f,?_⟩;rw[Z10 ho,hexec,hy];refine⟨(fun h=>by cases h),?_⟩;have hr:RoundIn M.fence (0-1) M.P e.g fn tmps asg body w _:=hr;refine hr.mono fun en w' he=>?_;obtain⟨v,rfl,r,O',nx',η',h3,h4,h5,h6⟩:=he;exact hn v r O' nx' η' w' h3 h4 h5 h6
theorem Vq(hT:TabOK M.P M.C.T){fr:Fr}{a:Act}(K:Models M η fr O nx a w){o:Oper}{lk:Operand->Option SV}(hl:∀x sv,lk x=some sv->Den η sv (a.eval x)){K':SV->Hps->Nat->Prop}(h:Z2E M o lk O nx K'){next:Act->World->Prop}{Q:Exit->Act->World->Prop}
 (hn:∀u v O' nx' η' w',JZ M.C.N o.dst=true->η<+:η'->HeapOK M η' w' O' nx'->Den η' v u->K' v O' nx'->next (a.put o.dst u) w'):o.wpIn M.fence 0 M.P a w next Q:=by
 unfold Z2E at h;split at h
 ·exact h.out.elim
 rename_i hd
 have main:∀{op:Op},o.op=op->(opR M.C lk O nx op).go O nx K'->o.wpIn M.fence 0 M.P a w next Q:=by
  intro op ho h;subst ho;obtain⟨v,O',nx',h1,h2⟩:=Res.go_ok h;obtain⟨u,w',η',h3,h4,h5,h6,_⟩:=Z5t ⟨K.heap,hT,hl⟩ o h1;exact Z32 M.all h3 (hn u v O' nx' η' w' hd h4 h5 h6 h2)
 split at h
 ·rename_i c ho;split at h
  ·exact main ho h
  ·split at h
   ·rename_i f args hc;rw[Ja]at h;refine Zcg ho K.heap hl hc h fun v r O' nx' η' w' h1 h2 h3 h4=>?_;rw[Yv,VP]at h4;exact hn v r O' nx' η' w' hd h1 h2 h3 h4
   ·split at h
    ·rename_i j args hc;rw[Ja]at h;refine Zei ho K.heap hl hc h fun v r O' nx' η' w' h1 h2 h3 h4=>?_;rw[Yv,VP]at h4;exact hn v r O' nx' η' w' hd h1 h2 h3 h4
    ·exact h.out.elim
 ·exact main rfl h
theorem Z4G:∀{kp fr:Fr},ZbT kp fr->∀{t:Nat} {v:SV},lkp t kp=some v->lkp t fr=some v
 | [],fr,_,t,v,h=>by simp[lkp]at h
 |(d,u)::r,fr,hk,t,v,h=>by
  rw[Z6]at h;split at h
  ·rename_i e;subst e;injection h with h;subst h;exact hk.1
  ·exact Z4G hk.2 h
theorem Models.kept{kp fr:Fr}{a:Act}(hm:Models M η fr O nx a w)(hk:ZbU kp fr){η':Env}{w':World}{O':Hps}{nx':Nat}(hp:η<+:η')(H:HeapOK M η' w' O' nx'):Models M η' kp O' nx' a w':=
 ⟨H,hm.size,hm.nds,by rw[<-hk.1];exact hm.defers.mono hp,U7 hp hm.ro,fun t v ht=>(hm.frame t v (Z4G hk.2 ht)).mono hp⟩
theorem Zej{o:Oper}{a:Act}{c:Call}{lk:Operand->Option SV}{f:FuncId}{args:List SV}{KP K:SV->Hps->Nat->Prop}{next:Act->World->Prop}{Q:Exit->Act->World->Prop}(ho:o.op= .call c)(H:HeapOK M η w O nx)(hl:∀x sv,lk x=some sv->Den η sv (a.eval x))
 (hc:U4 lk c=some (f,args)) (hC:CALLE M f args O nx KP K) (hn:∀v r O' nx' η' w',η<+:η'->HeapOK M η' w' O' nx'->Den η' r v->K r O' nx'->next (a.put o.dst v) w')
 (hp:∀v r O' nx' η' w',η<+:η'->HeapOK M η' w' O' nx'->Den η' r v->KP r O' nx'->Q (.panic [{v,recovered:=false}]) a w'):o.wpIn M.fence 0 M.P a w next Q:=by
 unfold U4 at hc;split at hc
 case h_2=>cases hc
 rename_i ff hcal;split at hc
 case h_2=>cases hc
 rename_i f' first cap args' hf hargs;simp only[Option.some.injEq,Prod.mk.injEq]at hc;obtain⟨rfl,rfl⟩:=hc;have hfd:=hl _ _ hf;simp only[Den]at hfd;obtain⟨us,vs,hfv,h1,h2⟩:=hfd;have hall:=YW (YW h1 (Z04 hl hargs)) h2
 have hexec:(execOp a.eval o).run M.P w=(callFunc f' ⟨us++c.args.toList.map a.eval++vs⟩).run M.P w:=by
  have:(⟨us⟩++c.args.map a.eval++⟨vs⟩:Array Value)=⟨us++c.args.toList.map a.eval++vs⟩:=by apply Array.ext';simp
  rw[<-this];simp[execOp,ho,resolve,hcal,hfv,Deferred.ofValue,invoke]
 refine⟨fun f _=>M.all f,?_⟩;rw[Z10 ho,hexec];rcases hC.out η w _ H hall with⟨g,hg,hcalls⟩|⟨v,w',hv,r,O',nx',η',h3,h4,h5,h6⟩
 ·rw[hg];refine⟨(fun h=>by cases h),?_⟩;have hcalls:CallsIn M.fence (0-1) M.P g _ w _:=callsIn_wide.2 hcalls;refine hcalls.mono fun e w' he=>?_;rcases he with⟨v,rfl,r,O',nx',η',h3,h4,h5,h6⟩|⟨v,rfl,r,O',nx',η',h3,h4,h5,h6⟩
  ·exact hn v r O' nx' η' w' h3 h4 h5 h6
  ·exact hp v r O' nx' η' w' h3 h4 h5 h6
 ·rw[hv];exact hn v r O' nx' η' w' h3 h4 h5 h6
theorem Zek(hT:TabOK M.P M.C.T){fr:Fr}{a:Act}(hm:Models M η fr O nx a w){o:Oper}{K':Fr->SV->Hps->Nat->Prop}(h:ZaC M o fr O nx K'){next:Act->World->Prop}{Q:Exit->Act->World->Prop}
 (hn:∀fr' u v O' nx' η' a' w',JZ M.C.N o.dst=true->Models M η' fr' O' nx' a' w'->Den η' v u->K' fr' v O' nx'->next (a'.put o.dst u) w') (hp:∀ch w',Z9t M ch a w'->Q (.panic ch) a w'):o.wpIn M.fence 0 M.P a w next Q:=by
 have hl:∀x sv,JX fr x=some sv->Den η sv (a.eval x):=fun x sv hx=>Yx hm.frame hx
 have hn0:∀u v O' nx' η' w',JZ M.C.N o.dst=true->η<+:η'->HeapOK M η' w' O' nx'->Den η' v u->K' fr v O' nx'->next (a.put o.dst u) w':=fun u v O' nx' η' w' hd h1 h2 h3 h4=>
  hn fr u v O' nx' η' a w' hd ⟨h2,hm.size,hm.nds,hm.defers.mono h1,U7 h1 hm.ro,hm.frame.mono h1⟩ h3 h4
 unfold ZaC at h;split at h
 ·exact Vq hT hm hl h hn0
 rename_i kp X hpx;split at h
 ·exact h.out.elim
 rename_i hd;split at h
 ·rename_i x ho;split at h
  case h_2=>exact h.out.elim
  rename_i t u hx;rw[Yv]at h;have hden:=hl _ _ hx;have hden':=hden;simp only[Den]at hden;obtain⟨y,hv,hy⟩:=hden;refine⟨fun f _=>M.all f,?_⟩;rw[Oper.semAt_eq _ _ _ (fun c' hc=>by rw[ho]at hc;cases hc)]
  have hexec:(execOp a.eval o).run M.P w= .halt (.panic (a.eval x)) w:=by
   rw[hv];simp[execOp,ho,hv,Instr.panic]
  rw[hexec];exact hp _ _ ⟨kp,X,hpx,η,O,nx,_,_,rfl,hm.kept h.1 List.prefix_rfl hm.heap,hden',h.2⟩
 ·rename_i c ho;unfold Zfu at h;split at h
  ·exact h.out.elim
  rename_i hro;split at h
  case h_2=>exact h.out.elim
  rename_i f hcal hargs;split at h
  case h_2=>exact h.out.elim
  rename_i g cap hf;split at h
  case h_2=>exact h.out.elim
  rename_i hds;have hfd:=hl _ _ hf;simp only[Den]at hfd;obtain⟨us,vs,hfv,h1,h2⟩:=hfd;simp only[DenL]at h1;subst h1;have hargs':c.args= #[]:=by apply Array.ext';simpa using hargs
  have hr:M.fence.round=none:=by simp[Mx.fence,hro]
  refine⟨fun f _=>M.all f,?_⟩;rw[hr,Oper.semAt_none]
  have hexec:(execOp a.eval o).run M.P w= .ok (.defer {target:= .fn (.func g) ⟨vs⟩,args:= #[]}) w:=by
   simp[execOp,ho,resolve,hcal,hargs',hfv,Deferred.ofValue]
  rw[hexec];refine hn _ undef X8 O nx η {a with defers:={target:= .fn (.func g) ⟨vs⟩,args:= #[]}::a.defers} w hd ⟨hm.heap,hm.size,hm.nds,?_,hm.ro,fun t v ht=>?_⟩ (V3 η) h
  ·rw[Z6,if_pos rfl];have hde:a.defers=[]:=by have:=hm.defers;rw[hds]at this;exact this
   show DfL η _ _
   simp only[DfL];exact⟨[],vs,[],rfl,h2,by rw[hde],rfl⟩
  ·rw[Z6]at ht;split at ht
   ·rename_i e;injection ht with ht;subst ht;simp only[Den]
   ·exact hm.frame t v ht
 ·rename_i c ho;split at h
  ·exact Vq hT hm hl h hn0
  ·split at h
   ·rename_i f args hc;rw[Ja]at h;refine Zej ho hm.heap hl hc h (fun v r O' nx' η' w' h1 h2 h3 h4=>?_) fun v r O' nx' η' w' h1 h2 h3 h4=>?_
    ·rw[Yv,VP]at h4;exact hn0 v r O' nx' η' w' hd h1 h2 h3 h4
    ·exact hp _ _ ⟨kp,X,hpx,η',O',nx',v,r,rfl,hm.kept h4.1 h1 h2,h3,h4.2⟩
   ·exact Vq hT hm hl h hn0
 ·exact Vq hT hm hl h hn0
theorem We{ops:Array Oper}{a:Act}{j s:Nat}(h:UI ops.toList j=some s){b:Bool}(hb:a.tmps.getD s undef= .bool b):yielded ops a.tmps j=some b:=by
 unfold UI at h;rw[VD]at h;unfold yielded;cases ho:ops.toList[j]? with
 |none=>rw[ho]at h;cases h
 |some o=>
  rw[ho]at h;simp only at h;have ho':ops[j]?=some o:=by simpa using ho
  have hs:s<a.tmps.size:=by
   rcases Nat.lt_or_ge s a.tmps.size with hlt|hge
   ·exact hlt
   ·rw[Array.getD_eq_getD_getElem?,Array.getElem?_eq_none hge]at hb;cases hb
  rw[Array.getD_eq_getD_getElem?,Array.getElem?_eq_getElem hs]at hb;simp only[Option.getD_some]at hb;simp[ho',h,Array.getElem?_eq_getElem hs,hb]
theorem U8{ops:Array Oper}{a:Act}{j s:Nat}(h:UI ops.toList j=some s){want:Bool}(hb:a.tmps.getD s undef≠ .bool want):yielded ops a.tmps j≠some want:=by
 unfold UI at h;rw[VD]at h;unfold yielded;cases ho:ops.toList[j]? with
 |none=>rw[ho]at h;cases h
 |some o=>
  rw[ho]at h;simp only at h;have ho':ops[j]?=some o:=by simpa using ho
  simp only[ho',Option.bind_some,h];intro hy;split at hy
  ·rename_i b hq;injection hy with hy;subst hy;apply hb;rw[Array.getD_eq_getD_getElem?,hq];rfl
  ·cases hy
theorem V4{P:Program}{ops:Array Oper}{Q:Exit->Act->World->Prop}{a:Act}{w:World}{rest:List Oper}{o:Oper}(hw:Region.wanted o (yielded ops a.tmps)=true){F:Fence}(h:o.wpIn F 0 P a w (wpListIn F 0 P ops Q rest) Q):wpListIn F 0 P ops Q (o::rest) a w:=by
 unfold wpListIn;rw[if_pos hw];exact h
theorem Vr{P:Program}{ops:Array Oper}{Q:Exit->Act->World->Prop}{a:Act}{w:World}{rest:List Oper}{o:Oper}(hw:¬Region.wanted o (yielded ops a.tmps)=true){F:Fence}(hF:∀f,F.fn f)(h:wpListIn F 0 P ops Q rest (a.put o.dst undef) w):wpListIn F 0 P ops Q (o::rest) a w:=by
 unfold wpListIn;rw[if_neg hw];exact⟨fun f _=>hF f,h⟩
theorem U9{o:Oper}{y:Nat->Option Bool}(h:o.guard=none):Region.wanted o y=true:=by simp[Region.wanted,h]
theorem ZC{o:Oper}{y:Nat->Option Bool}{j:Nat}{b:Bool}(h:o.guard=some (j,b)):Region.wanted o y=true<->y j=some b:=by simp[Region.wanted,h]
theorem Z11(hT:TabOK M.P M.C.T){ops:Array Oper}{Q:Exit->Act->World->Prop}:∀(rest:List Oper) {fr:Fr} {O:Hps} {nx:Nat} {K:Fr->Hps->Nat->Prop},runS M ops.toList rest fr O nx K->
 ∀{η:Env} {a:Act} {w:World},Models M η fr O nx a w->(∀η fr O nx a w,Models M η fr O nx a w->K fr O nx->Q .normal a w)->(∀ch a w,Z9t M ch a w->Q (.panic ch) a w)->wpListIn M.fence 0 M.P ops Q rest a w
 | [],fr,O,nx,K,h,η,a,w,hm,hq,hp=>hq η fr O nx a w hm h
 |o::rest,fr,O,nx,K,h,η,a,w,hm,hq,hpa=>by
  replace h:ZfX M ops.toList o rest (runS M ops.toList rest) fr O nx K:=h
  unfold ZfX at h
  have step:∀{fr':Fr},Models M η fr' O nx a w->ZaC M o fr' O nx (fun fr v O nx=>putK o.dst v fr fun fr=>runS M ops.toList rest fr O nx K)->o.wpIn M.fence 0 M.P a w (wpListIn M.fence 0 M.P ops Q rest) Q:=by
   intro fr' hm' h;refine Zek hT hm' h (fun fr2 u v O' nx' η' a' w' hd hM hv hk=>?_) fun ch w' hr=>hpa ch a w' hr;obtain⟨fr2,h1,h2⟩:=hM.put hd List.prefix_rfl hM.heap hv hk;exact Z11 hT rest h1 h2 hq hpa
  have skip:∀{fr':Fr},Models M η fr' O nx a w->(match JZ M.C.N o.dst with|true=>putK o.dst X8 fr' fun fr=>runS M ops.toList rest fr O nx K|false=>STOP "slot")->wpListIn M.fence 0 M.P ops Q rest (a.put o.dst undef) w:=by
   intro fr' hm' h;split at h
   ·rename_i hd;obtain⟨fr2,h1,h2⟩:=hm'.put hd List.prefix_rfl hm'.heap (V3 η) h;exact Z11 hT rest h1 h2 hq hpa
   ·exact h.out.elim
  split at h
  ·rename_i hg;exact V4 (U9 hg) (step hm h)
  ·rename_i j want hg;split at h
   ·exact h.out.elim
   rename_i s hs;split at h
   ·rename_i b hb;have hbv:=X5 (hm.frame s _ hb);have hy:=We hs hbv;cases b with
    |true=>
     have h:=h.t rfl;have hm':Models M η ((s, .bool true)::fr) O nx a w:=hm.know hb rfl rfl hbv;cases want with
     |true=>exact V4 ((ZC hg).2 hy) (step hm' h)
     |false=>exact Vr (hF:=M.all) (fun hw=>by rw[ZC hg,hy]at hw;cases hw) (skip hm' h)
    |false=>
     have h:=h.f rfl;have hm':Models M η ((s, .bool false)::fr) O nx a w:=hm.know hb rfl rfl hbv;cases want with
     |false=>exact V4 ((ZC hg).2 hy) (step hm' h)
     |true=>exact Vr (hF:=M.all) (fun hw=>by rw[ZC hg,hy]at hw;cases hw) (skip hm' h)
   ·rename_i hb;have hbv:=hm.frame s _ hb;simp only[Den,DenL]at hbv;obtain⟨vs,hbv,rfl⟩:=hbv;exact Vr (hF:=M.all) (fun hw=>by rw[ZC hg]at hw;exact U8 hs (by rw[hbv];simp) hw) (skip hm h)
   ·exact h.out.elim
end
section
variable {M:Mx}{η:Env}{w:World}{O:Hps}{nx:Nat}
theorem PathOK.sub{a:Act}:∀{p q:List (Nat×Bool)},Z5l p q=true->PathOK a q->PathOK a p
 | [],q,_,_=>fun x hx=>by cases hx
 |(s,b)::p,q,h,hq=>by
  simp only[Z5l,Bool.and_eq_true,List.any_eq_true]at h;obtain⟨⟨x,hx,h1⟩,h2⟩:=h;have h3:=Zn h1.1;have h4:x.2=b:=by simpa using h1.2
  intro y hy;rcases List.mem_cons.1 hy with rfl|hy
  ·have:=hq x hx;rw[h3,h4]at this;exact this
  ·exact PathOK.sub h2 hq y hy
theorem UN{a:Act}{fr:Fr}{gs:Gs}{path:List (Nat×Bool)}(hf:FrOK η a fr)(hg:GsOK η a gs)(hp:PathOK a path){x:Operand}{sv:SV}(hx:Z5m fr gs path x=some sv):Den η sv (a.eval x):=by
 cases x with
 |tmp t=>
  simp only[Z5m]at hx;split at hx
  ·rename_i q v hq;split at hx
   ·rename_i hs;injection hx with hx;subst hx;exact(hg t q v hq).1 (PathOK.sub hs hp)
   ·cases hx
  ·exact hf t sv hx
 |const v=>exact Yx hf hx
 |global g=>exact Yx hf hx
 |func f=>exact Yx hf hx
theorem Z0n{a:Act}{fr:Fr}{gs:Gs}(hf:FrOK η a fr)(hg:GsOK η a gs):∀{path:List (Nat×Bool)} {g:Bool},Z0f fr gs path=some g->PathOK a path->g=true
 | [],g,h,_=>by simp only[Z0f,Option.some.injEq]at h;exact h.symm
 |(s,want)::r,g,h,hp=>by
  have hpr:PathOK a r:=fun x hx=>hp x (List.mem_cons_of_mem _ hx);simp only[Z0f]at h;split at h
  case h_2=>cases h
  rename_i b hb;have hbv:=X5 (UN hf hg hpr hb);have hsv:=hp (s,want) (List.mem_cons_self ..);simp only[Act.eval]at hbv;rw[hbv]at hsv;injection hsv with hsv;simp only at hsv;split at h
  case h_2=>cases h
  rename_i x hx;have hxt:=Z0n hf hg hx hpr;subst hxt hsv;cases b<;>simp at h<;>exact h
theorem Zel{a:Act}{gs:Gs}(hg:GsOK η a gs){s:Nat}{want:Bool}(h:a.tmps.getD s undef= .bool want):PathOK a (Z5n gs s want):=by
 intro x hx;unfold Z5n at hx;rcases List.mem_cons.1 hx with rfl|hx
 ·exact h
 ·split at hx
  ·rename_i q v hq;by_cases hp:PathOK a q
   ·exact hp x hx
   ·have:=(hg s q v hq).2 hp;rw[h]at this;cases this
  ·cases hx
theorem PathOK.put{a:Act}{d:Nat}{u:Value}{p:List (Nat×Bool)}(h:ZbW d p=true):PathOK (a.put (some d) u) p<->PathOK a p:=by
 unfold ZbW at h
 have key:∀x∈p,(a.put (some d) u).tmps.getD x.1 undef=a.tmps.getD x.1 undef:=by
  intro x hx;have:=(List.all_eq_true.1 h) x hx;have hne:x.1≠d:=Jv (by simpa using this);exact Z31 hne
 exact⟨fun k x hx=>by rw[<-key x hx];exact k x hx,fun k x hx=>by rw[key x hx];exact k x hx⟩
theorem UO{α:Type}:∀{l:List (Nat×α)} {t:Nat} {v:α},lkp t l=some v->(t,v)∈l
 | [],t,v,h=>by simp[lkp]at h
 |(d,u)::r,t,v,h=>by
  rw[Z6]at h;split at h
  ·rename_i e;subst e;injection h with h;subst h;exact List.mem_cons_self ..
  ·exact List.mem_cons_of_mem _ (UO h)
theorem GsOK.put{a:Act}{gs:Gs}(hg:GsOK η a gs){η':Env}(hp:η<+:η'){d:Option Tmp}{u:Value}(hd:Zfx d gs=true):GsOK η' (a.put d u) gs:=by
 cases d with
 |none=>exact fun t p sv h=>⟨fun k=>((hg t p sv h).1 k).mono hp,(hg t p sv h).2⟩
 |some d=>
  intro t p sv h;have hm:=UO h;have:=(List.all_eq_true.1 hd) _ hm;simp only[Bool.and_eq_true]at this;have hne:t≠d:=Jv (by simpa using this.1);have hn:ZbW d p=true:=this.2;rw[PathOK.put hn,Z31 hne];exact⟨fun k=>((hg t p sv h).1 k).mono hp,(hg t p sv h).2⟩
theorem Res.gg_ok{g:Prop}:∀{r:Res} {K:SV->Prop},r.gg g K->∃v,(g->∀O nx,r.ok O nx v O nx)/\K v
 | .val v,K,h=>by simp only[Res.gg,Ze7,Yv]at h;exact⟨v,fun _ _ _=>⟨rfl,rfl,rfl⟩,h⟩
 | .need p k,K,h=>by
   simp only[Res.gg,Zfw]at h;obtain⟨v,h1,h2⟩:=Res.gg_ok h.k;exact⟨v,fun hg O nx=>⟨h.p hg,h1 hg O nx⟩,h2⟩
 | .get rs i f,K,h=>by
   simp only[Res.gg,Zhh,JS]at h;obtain⟨row,hr,h⟩:=h.out;obtain⟨v,h1,h2⟩:=Res.gg_ok h;exact⟨v,fun hg O nx=>⟨row,hr hg,h1 hg O nx⟩,h2⟩
 | .new _ _,_,h=>h.out.elim
 | .upd _ _ _,_,h=>h.out.elim
 | .repl _ _ _,_,h=>h.out.elim
 | .ite _ _ _,_,h=>h.out.elim
 | .fail,_,h=>h.out.elim
theorem Z6O(hT:TabOK M.P M.C.T){a:Act}{fr:Fr}{gs:Gs}{path:List (Nat×Bool)}(H:HeapOK M η w O nx)(hf:FrOK η a fr)(hg:GsOK η a gs)(hp:PathOK a path)(o:Oper){v:SV}{O':Hps}{nx':Nat}(hr:(opG M.C fr gs path O nx o.op).ok O nx v O' nx'):Y3 M η w o a.eval v O' nx':=by
 have A:At M η w O nx a.eval (Z5m fr gs path):=⟨H,hT,fun x sv hx=>UN hf hg hp hx⟩;obtain⟨dst,op,ty,pos,af,gd⟩:=o;cases op with
 |pick c x y=>
  simp only[opG,Zhi]at hr;split at hr
  case h_2=>exact hr.elim
  rename_i s;split at hr
  case h_2=>exact hr.elim
  rename_i b hb;have hbv:=X5 (A.L _ _ hb);split at hr
  case h_2=>exact hr.elim
  rename_i p q hx hy;refine A.val hr ⟨.bool (bif b then p else q), .inl ?_,rfl⟩;cases b with
  |true=>
   have h2:=X5 (UN hf hg (path:=(s,true)::path) (fun z hz=>by
    rcases List.mem_cons.1 hz with rfl|hz
    ·exact hbv
    ·exact hp z hz) hx)
   simp[execOp,hbv,h2,asBool]
  |false=>
   have h2:=X5 (UN hf hg (path:=(s,false)::path) (fun z hz=>by
    rcases List.mem_cons.1 hz with rfl|hz
    ·exact hbv
    ·exact hp z hz) hy)
   simp[execOp,hbv,h2,asBool]
 |_=>exact Z5t A _ hr
theorem Wf(hT:TabOK M.P M.C.T){ops:Array Oper}{Q:Exit->Act->World->Prop}:∀(rest:List Oper) {fr:Fr} {gs:Gs} {O:Hps} {nx:Nat} {K:Fr->Hps->Nat->Prop},runG M ops.toList rest fr gs O nx K->
 ∀{η:Env} {a:Act} {w:World},Models M η fr O nx a w->GsOK η a gs->(∀η fr O nx a w,Models M η fr O nx a w->K fr O nx->Q .normal a w)->wpListIn M.fence 0 M.P ops Q rest a w
 | [],fr,gs,O,nx,K,h,η,a,w,hm,hg,hq=>hq η fr O nx a w hm h
 |o::rest,fr,gs,O,nx,K,h,η,a,w,hm,hg,hq=>by
  replace h:ZfZ M ops.toList o rest (runG M ops.toList rest) fr gs O nx K:=h
  unfold ZfZ at h;split at h
  ·exact h.out.elim
  rename_i hd;split at h
  ·exact h.out.elim
  rename_i hfresh;split at h
  ·rename_i hgu;refine V4 (U9 hgu) ?_
   have main:∀{op:Op},o.op=op->((opG M.C fr gs [] O nx op).go O nx fun v O nx=>putK o.dst v fr fun fr=>runG M ops.toList rest fr gs O nx K)->o.wpIn M.fence 0 M.P a w (wpListIn M.fence 0 M.P ops Q rest) Q:=by
    intro op ho h;subst ho;obtain⟨v,O',nx',h1,h2⟩:=Res.go_ok h;obtain⟨u,w',η',h3,h4,h5,h6,_⟩:=Z6O hT hm.heap hm.frame hg (fun x hx=>by cases hx) o h1;obtain⟨fr2,h7,h8⟩:=hm.put hd h4 h5 h6 h2;exact Z32 M.all h3 (Wf hT rest h7 h8 (hg.put h4 hfresh) hq)
   split at h
   ·rename_i c ho;split at h
    ·exact main ho h
    ·split at h
     ·rename_i f args hc;rw[Ja]at h;refine Zcg ho hm.heap (fun x sv hx=>UN hm.frame hg (fun x hx=>by cases hx) hx) hc h fun v r O' nx' η' w' h1 h2 h3 h4=>?_;rw[Yv,VP]at h4;obtain⟨fr2,h7,h8⟩:=hm.put hd h1 h2 h3 h4;exact Wf hT rest h7 h8 (hg.put h1 hfresh) hq
     ·exact h.out.elim
   ·exact main rfl h
  ·rename_i j want hgu;split at h
   ·exact h.out.elim
   rename_i s hs;split at h
   ·exact h.out.elim
   rename_i d hdd;split at h
   ·exact h.out.elim
   rename_i hnot;split at h
   ·exact h.out.elim
   rename_i g hgb;obtain⟨v,h1,h2⟩:=Res.gg_ok h;rw[hdd]at hd hfresh;have hlt:d<a.tmps.size:=by rw[hm.size];exact Z5v hd
   have next:∀{η':Env} {u:Value} {w':World},η<+:η'->HeapOK M η' w' O nx->(PathOK a (Z5n gs s want)->Den η' v u)->(¬PathOK a (Z5n gs s want)->u=undef)->wpListIn M.fence 0 M.P ops Q rest (a.put o.dst u) w':=by
    intro η' u w' hp hH hv hn;rw[hdd];refine Wf hT rest h2 ⟨hH,by rw[Z5u];exact hm.size,hm.nds,by rw[put_defers,ZfA hd hm.nds];exact hm.defers.mono hp,U7 hp hm.ro,(hm.frame.mono hp).put hlt (by simp only[Den])⟩ ?_ hq;intro t p sv ht;rw[Z6]at ht;split at ht
    ·rename_i e;subst e;injection ht with ht;injection ht with ht1 ht2;subst ht1 ht2;rw[PathOK.put hnot,Z9B hlt];exact⟨hv,hn⟩
    ·exact(hg.put (u:=u) hp hfresh) t p sv ht
   by_cases hw:a.tmps.getD s undef= .bool want
   ·have hp:=Zel hg hw;have hgt:=Z0n hm.frame hg hgb hp;obtain⟨u,w',η',h3,h4,h5,h6,_⟩:=Z6O hT hm.heap hm.frame hg hp o (h1 hgt O nx);exact V4 ((ZC hgu).2 (We hs hw)) (Z32 M.all h3 (next h4 h5 (fun _=>h6) (fun h=>absurd hp h)))
   ·have hnp:¬PathOK a (Z5n gs s want):=fun hp=>hw (hp (s,want) (List.mem_cons_self ..));exact Vr (hF:=M.all) (fun hh=>by rw[ZC hgu]at hh;exact U8 hs hw hh) (next List.prefix_rfl hm.heap (fun h=>absurd h hnp) (fun _=>rfl))
theorem Z21{F:Fence}{P:Program}{Q:Exit->Act->World->Prop}{a:Act}{w:World}{c:Code}(h:c.wpIn F 0 P (Exit.noGoto Q) a w):(Code.scope c).wpIn F 0 P Q a w:=by
 have s1:∀{b:Frame} {a:Act} {k:List Item} {cs:List Frame} {w:World},step P (lone (b.atR a (.code (.scope c)::k)) cs w)= .next (lone (b.atR a (.code c:: .inScope c::k)) cs w):=step_lone_go (by simp[stepG,stepG.exec,Frame.atR]);have s2:∀{b:Frame} {a:Act} {k:List Item} {cs:List Frame} {w:World},step P (lone (b.atR a (.inScope c::k)) cs w)= .next (lone (b.atR a k) cs w):=step_lone_go (by simp[stepG,stepG.exec,Frame.atR]);intro b k cs hro hb hr;have h0:(lone (b.atR a (.code (.scope c)::k)) cs w).fenced P F:=fenced_calm hb hr rfl;obtain⟨e,a₁,w₁,hq,harr⟩:=h b (.inScope c::k) cs hro hb hr;cases e with
 |normal=>exact⟨.normal,a₁,w₁,hq, .head h0 s1 (StepsIn.trans harr (.one (fenced_calm hb hr rfl) s2))⟩
 |exit id=>
  have hx:exitTo id (.inScope c::k)=exitTo id k:=by simp[exitTo]
  exact⟨.exit id,a₁,w₁,hq,fun k' hk=> .head h0 s1 (harr.1 k' (by rw[hx];exact hk)),fun hr' hk=>let⟨k₁,h1,h2⟩:=harr.2 hr' (by rw[hx];exact hk);⟨k₁,h1, .head h0 s1 h2⟩⟩
 |goto l=>exact hq.elim
 |ret=>exact⟨_,a₁,w₁,hq, .of_steps (.one h0 s1) harr⟩
 |panic ch=>exact⟨_,a₁,w₁,hq, .of_steps (.one h0 s1) harr⟩
 |outgrown=>exact⟨_,a₁,w₁,hq, .of_steps (.one h0 s1) harr⟩
theorem Z6P(hT:TabOK M.P M.C.T){id:Nat}{ops:Array Oper}{fr:Fr}{K:Fr->Hps->Nat->Prop}{Q:Exit->Act->World->Prop}
 (h:match guarded ops.toList&&!(Zfy ops.toList)&&M.px.isNone with|true=>runG M ops.toList ops.toList fr [] O nx K|false=>runS M ops.toList ops.toList fr O nx K) {a:Act} (hm:Models M η fr O nx a w) (hq:∀η fr O nx a w,Models M η fr O nx a w->K fr O nx->Q .normal a w) (hp:∀ch a w,Z9t M ch a w->Q (.panic ch) a w):
 (Code.region id ops false).wpIn M.fence 0 M.P Q a w:=by
 refine wpIn_region_list ?_;split at h
 ·exact Wf hT _ h hm (fun t p sv ht=>by simp[lkp]at ht) hq
 ·exact Z11 hT _ h hm hq hp
theorem Y2(hT:TabOK M.P M.C.T):∀(c:Code) {fr:Fr} {O:Hps} {nx:Nat} {Q:Post},run M c fr O nx Q->Walk M c fr O nx Q
 | .skip,fr,O,nx,Q,h=>fun η a w hm=>wpIn_skip ⟨η,fr,O,nx,hm,h⟩
 | .label l,fr,O,nx,Q,h=>fun η a w hm=>wpIn_label ⟨η,fr,O,nx,hm,h⟩
 | .ret,fr,O,nx,Q,h=>fun η a w hm=>wpIn_ret ⟨η,fr,O,nx,hm,h⟩
 | .exit id,fr,O,nx,Q,h=>fun η a w hm=>wpIn_exit ⟨η,fr,O,nx,hm,h⟩
 | .region id ops draw,fr,O,nx,Q,h=>by
   simp only[run,ZbY]at h;cases draw with
   |true=>exact h.out
   |false=>exact fun η a w hm=>Z6P hT h hm (fun η fr O nx a w hm hk=>⟨η,fr,O,nx,hm,hk⟩) fun ch a w h=>h
 | .seq x y,fr,O,nx,Q,h=>fun η a w hm=>by
   refine wpIn_seq (Code.wpIn_mono ?_ (Y2 hT x h η a w hm));intro e a w hq;cases e with
   |normal=>obtain⟨η,fr,O,nx,hm,hq⟩:=hq;exact Y2 hT y hq η a w hm
   |exit id=>exact hq
   |ret=>exact hq
   |goto l=>exact hq
   |panic ch=>exact hq
   |outgrown=>exact hq
 | .cond c x y,fr,O,nx,Q,h=>fun η a w hm=>by
   simp only[run,Zhk]at h;split at h
   case h_3=>exact h.out.elim
   case h_2 n hb=>
    have hbv:=Yx hm.frame hb;simp only[Den]at hbv;obtain⟨b,hbv,h0⟩:=hbv;split at h
    case h_2=>exact h.out.elim
    rename_i t;refine wpIn_cond_split hbv (fun e=>?_) (fun e=>?_)
    ·subst e;exact Y2 hT x (h.t (h0 rfl)) η a w (hm.know (s:=t) (show lkp t fr=_ from hb) rfl rfl hbv)
    ·subst e;exact Y2 hT y h.f η a w (hm.know (s:=t) (show lkp t fr=_ from hb) rfl rfl hbv)
   rename_i b hb;have hbv:=X5 (Yx hm.frame hb);split at h
   ·rename_i t;refine wpIn_cond_split hbv (fun e=>?_) (fun e=>?_)
    ·subst e;exact Y2 hT x (h.t rfl) η a w (hm.know (s:=t) (show lkp t fr=_ from hb) rfl rfl hbv)
    ·subst e;exact Y2 hT y (h.f rfl) η a w (hm.know (s:=t) (show lkp t fr=_ from hb) rfl rfl hbv)
   ·refine wpIn_cond_split hbv (fun e=>?_) (fun e=>?_)
    ·subst e;exact Y2 hT x (h.t rfl) η a w hm
    ·subst e;exact Y2 hT y (h.f rfl) η a w hm
 | .block id body,fr,O,nx,Q,h=>fun η a w hm=>by
   refine wpIn_block (Code.wpIn_mono ?_ (Y2 hT body h η a w hm));intro e a w hq;cases e with
   |normal=>exact hq
   |exit i=>
    obtain⟨η,fr,O,nx,hm,hq⟩:=hq;simp only[Exit.inBlock];simp only at hq;split at hq
    ·rename_i e;have e:=Zn e;subst e;rw[if_pos rfl];exact⟨η,fr,O,nx,hm,hq⟩
    ·rename_i e;rw[if_neg (Jv e)];exact⟨η,fr,O,nx,hm,hq⟩
   |ret=>exact hq
   |goto l=>exact hq
   |panic ch=>exact hq
   |outgrown=>exact hq
 | .loop body,fr,O,nx,Q,h=>fun η a w hm b k cs hro hb hr=>
   let⟨e,a',w',hq,harr⟩:=h.out η a w hm b k cs hro
   ⟨e,a',w',hq, .of_steps (.one (fenced_calm hb hr rfl) stepR_loop) harr⟩
 | .scope body,fr,O,nx,Q,h=>fun η a w hm=>by
   refine Z21 (Code.wpIn_mono ?_ (Y2 hT body h η a w hm));intro e a w hq;cases e<;>exact hq
 | .rangeFunc f ps asg body,fr,O,nx,Q,h=>h.out
 | .goto _,fr,O,nx,Q,h=>h.out.elim
 | .refuse _,fr,O,nx,Q,h=>h.out.elim
structure GOES(M:Mx)(fr:Fr)(O:Hps)(nx:Nat)(fr':Fr)(O':Hps)(nx':Nat):Prop where
 out:∀η a w,Models M η fr O nx a w->∃η',Models M η' fr' O' nx' a w
theorem LOOP.inv{body:Code}{fr:Fr}{Q:Post}(hT:TabOK M.P M.C.T){X:Type}(P:X->Prop)(I:X->Fr×Hps×Nat)(μ:X->Nat)(x0:X)(hP:P x0)(h0:GOES M fr O nx (I x0).1 (I x0).2.1 (I x0).2.2)
 (hr:∀x,P x->run M body (I x).1 (I x).2.1 (I x).2.2 fun e fr O nx=>match e with
   | .normal=> ∃x',P x'/\μ x'<μ x/\GOES M fr O nx (I x').1 (I x').2.1 (I x').2.2
   |e=>Q e fr O nx):LOOP M body fr O nx Q:=by
 refine⟨fun η a w hm=>?_⟩;obtain⟨η',hm0⟩:=h0.out η a w hm;intro b k cs hro;have hb:M.fence.fn b.fn:=M.all _;have hrm:M.fence.room (cs.length+1+0):=M.room _
 have key:∀n x η a w,P x->μ x=n->Models M η (I x).1 (I x).2.1 (I x).2.2 a w->
  ∃e a' w',ZaB M Q e a' w'/\ArrivesIn (Machine.fenced M.P M.fence) M.P (lone (b.atR a (.code body:: .inLoop body::k)) cs w) b k cs e a' w':=by
  intro n
  induction n using Nat.strongRecOn with
  |_ n ih=>
   intro x η a w hx hn hm;obtain⟨e,a',w',hq,harr⟩:=Y2 hT body (hr x hx) η a w hm b (.inLoop body::k) cs hro hb hrm;cases e with
   |normal=>
    obtain⟨η1,fr1,O1,nx1,hm1,x',hx',hlt,hnext⟩:=hq;obtain⟨η2,hm2⟩:=hnext.out η1 a' w' hm1;obtain⟨e2,a2,w2,hq2,harr2⟩:=ih (μ x') (hn▸hlt) x' η2 a' w' hx' rfl hm2;exact⟨e2,a2,w2,hq2, .of_steps (StepsIn.trans harr (.one (fenced_calm hb hrm rfl) stepR_inLoop)) harr2⟩
   |exit id=>
    obtain⟨η1,fr1,O1,nx1,hm1,hq⟩:=hq;exact⟨.exit id,a',w',⟨η1,fr1,O1,nx1,hm1,hq⟩, .pass (x:= .inLoop body) rfl (fun _ _=> .inl (by simp)) harr⟩
   |ret=>
    obtain⟨η1,fr1,O1,nx1,hm1,hq⟩:=hq;exact⟨.ret,a',w',⟨η1,fr1,O1,nx1,hm1,hq⟩, .pass (x:= .inLoop body) rfl (fun _ _=> .inl (by simp)) harr⟩
   |goto l=>exact hq.elim
   |panic ch=>exact⟨.panic ch,a',w',hq, .pass (x:= .inLoop body) rfl (fun _ _=> .inl (by simp)) harr⟩
   |outgrown=>exact hq.elim
 exact key _ x0 η' a w hP rfl hm0
theorem LOOP.once{body:Code}{fr:Fr}{Q:Post}(hT:TabOK M.P M.C.T)
 (hr:run M body fr O nx fun e fr O nx=>match e with
   | .normal=>LOOP M body fr O nx Q
   |e=>Q e fr O nx):LOOP M body fr O nx Q:=by
 refine⟨fun η a w hm=>?_⟩;intro b k cs hro;have hb:M.fence.fn b.fn:=M.all _;have hrm:M.fence.room (cs.length+1+0):=M.room _;obtain⟨e,a',w',hq,harr⟩:=Y2 hT body hr η a w hm b (.inLoop body::k) cs hro hb hrm;cases e with
 |normal=>
  obtain⟨η1,fr1,O1,nx1,hm1,hq⟩:=hq;obtain⟨e2,a2,w2,hq2,harr2⟩:=hq.out η1 a' w' hm1 b k cs hro;exact⟨e2,a2,w2,hq2, .of_steps (StepsIn.trans harr (.one (fenced_calm hb hrm rfl) stepR_inLoop)) harr2⟩
 |exit id=>
  obtain⟨η1,fr1,O1,nx1,hm1,hq⟩:=hq;exact⟨.exit id,a',w',⟨η1,fr1,O1,nx1,hm1,hq⟩,(.pass (x:= .inLoop body) rfl (fun _ _=> .inl (by simp)) harr)⟩
 |ret=>
  obtain⟨η1,fr1,O1,nx1,hm1,hq⟩:=hq;exact⟨.ret,a',w',⟨η1,fr1,O1,nx1,hm1,hq⟩,(.pass (x:= .inLoop body) rfl (fun _ _=> .inl (by simp)) harr)⟩
 |goto l=>exact hq.elim
 |panic ch=>exact⟨.panic ch,a',w',hq, .pass (x:= .inLoop body) rfl (fun _ _=> .inl (by simp)) harr⟩
 |outgrown=>exact hq.elim
end
def renB(σ:Nat->Nat):Blk->Blk
 | .glob g=> .glob g
 | .loc i=> .loc (σ i)
mutual
def ren(σ:Nat->Nat):SV->SV
 | .bool b=> .bool b
 | .int k n=> .int k n
 | .str s=> .str s
 | .ptr b r es c=> .ptr (renB σ b) r es c
 | .sl b r es len lim=> .sl (renB σ b) r es len lim
 | .val v=> .val v
 | .agg cs=> .agg (renL σ cs)
 | .arr es rs=> .arr es (Xt σ rs)
 | .tup vs=> .tup (renL σ vs)
 | .ifc t v=> .ifc t (ren σ v)
 | .fn f a b=> .fn f (renL σ a) (renL σ b)
 | .mp b=> .mp (renB σ b)
 | .any=> .any
 | .nb n=> .nb n
 | .yf b=> .yf (renB σ b)
 | .dfs l=> .dfs (renL σ l)
def renL(σ:Nat->Nat):List SV->List SV
 | []=>[]
 |c::cs=>ren σ c::renL σ cs
def Xt(σ:Nat->Nat):List (List SV)->List (List SV)
 | []=>[]
 |r::rs=>renL σ r::Xt σ rs
end
def renF(σ:Nat->Nat):Fr->Fr
 | []=>[]
 |(t,v)::r=>(t,ren σ v)::renF σ r
def renC(σ:Nat->Nat):DC->DC
 | .v s=> .v (ren σ s)
 | .kid es rows=> .kid es (Xt σ rows)
def Z0o(σ:Nat->Nat):List DC->List DC
 | []=>[]
 |c::cs=>renC σ c::Z0o σ cs
def XM(σ:Nat->Nat):List (List DC)->List (List DC)
 | []=>[]
 |r::rs=>Z0o σ r::XM σ rs
theorem Z33(σ:Nat->Nat):∀r:List DC,Z0o σ r=r.map (renC σ)
 | []=>rfl
 |c::cs=>by simp only[Z0o,List.map_cons,Z33 σ cs]
theorem Z12(σ:Nat->Nat):∀rs:List (List DC),XM σ rs=rs.map (Z0o σ)
 | []=>rfl
 |c::cs=>by simp only[XM,List.map_cons,Z12 σ cs]
theorem Z9C(σ:Nat->Nat):∀r:List SV,renL σ r=r.map (ren σ)
 | []=>rfl
 |c::cs=>by simp only[renL,List.map_cons,Z9C σ cs]
theorem Z6Q(σ:Nat->Nat):∀rs:List (List SV),Xt σ rs=rs.map (renL σ)
 | []=>rfl
 |c::cs=>by simp only[Xt,List.map_cons,Z6Q σ cs]
theorem Zch(σ:Nat->Nat)(c:DC):ZN (renC σ c)=ren σ (ZN c):=by cases c<;>rfl
theorem VT(σ:Nat->Nat)(rs:List (List DC)):Zs (XM σ rs)=Xt σ (Zs rs):=by
 rw[Z12,Z6Q];unfold Zs;rw[List.map_map,List.map_map];refine List.map_congr_left fun r _=>?_;simp only[Function.comp,Z33,Z9C,List.map_map];exact List.map_congr_left fun c _=>Zch σ c
theorem V5(σ:Nat->Nat)(rs:List (List DC))(i j:Nat):Yd (XM σ rs) i j=(Yd rs i j).map fun x=>(x.1,Xt σ x.2):=by
 unfold Yd;rw[Z12,List.getElem?_map];cases rs[i]? with
 |none=>rfl
 |some row=>
  simp only[Option.map_some,Z33,List.getElem?_map];cases row[j]? with
  |none=>rfl
  |some c=>cases c<;>rfl
def renH(σ:Nat->Nat):Hp->Hp
 | .box row=> .box (renL σ row)
 | .rows es rs=> .rows es (Xt σ rs)
 | .siter s p=> .siter s p
 | .tbl vs=> .tbl vs
 | .bld T e l=> .bld T e l
 | .dfr f=> .dfr f
 | .lp st li fr=> .lp st li (renF σ fr)
 | .mp rs=> .mp (Xt σ rs)
 | .deep mp es rs=> .deep mp es (XM σ rs)
theorem Zz{α:Type}(f:α->List SV)(h:∀x,YK (f x)=true):∀xs:List α,Zh (xs.map f)=true
 | []=>rfl
 |x::xs=>by simp only[List.map_cons,Zh,h x,Zz f h xs,Bool.and_self]
theorem VF:∀{xs ys:List (List SV)},Zh xs=true->Zh ys=true->Zh (xs++ys)=true
 | [],ys,_,h=>h
 |x::xs,ys,h,k=>by
  simp only[Zh,Bool.and_eq_true]at h;simp only[List.cons_append,Zh,h.1,VF h.2 k,Bool.and_self]
mutual
theorem Xf(σ:Nat->Nat):∀{v:SV},plain v=true->ren σ v=v
 | .bool _,_=>rfl
 | .int _ _,_=>rfl
 | .str _,_=>rfl
 | .val _,_=>rfl
 | .any,_=>rfl
 | .nb _,_=>rfl
 | .ptr (.glob _) _ _ _,_=>rfl
 | .ptr (.loc _) _ _ _,h=>by simp[plain]at h
 | .sl (.glob _) _ _ _ _,_=>rfl
 | .sl (.loc _) _ _ _ _,h=>by simp[plain]at h
 | .agg cs,h=>by simp only[plain]at h;simp only[ren,ZI σ h]
 | .arr _ rs,h=>by simp only[plain]at h;simp only[ren,Zf σ h]
 | .tup vs,h=>by simp only[plain]at h;simp only[ren,ZI σ h]
 | .ifc _ v,h=>by simp only[plain]at h;simp only[ren,Xf σ h]
 | .fn _ a b,h=>by simp only[plain,Bool.and_eq_true]at h;simp only[ren,ZI σ h.1,ZI σ h.2]
 | .mp (.glob _),_=>rfl
 | .mp (.loc _),h=>by simp[plain]at h
 | .yf _,h=>by simp[plain]at h
 | .dfs _,h=>by simp[plain]at h
theorem ZI(σ:Nat->Nat):∀{vs:List SV},YK vs=true->renL σ vs=vs
 | [],_=>rfl
 |c::cs,h=>by simp only[YK,Bool.and_eq_true]at h;simp only[renL,Xf σ h.1,ZI σ h.2]
theorem Zf(σ:Nat->Nat):∀{vs:List (List SV)},Zh vs=true->Xt σ vs=vs
 | [],_=>rfl
 |c::cs,h=>by simp only[Zh,Bool.and_eq_true]at h;simp only[Xt,ZI σ h.1,Zf σ h.2]
end
theorem Z13(σ:Nat->Nat):∀{fr:Fr},Z4w fr=true->renF σ fr=fr
 | [],_=>rfl
 |(t,v)::r,h=>by simp only[Z4w,Bool.and_eq_true]at h;simp only[renF,Xf σ h.1,Z13 σ h.2]
theorem Z4H(σ:Nat->Nat):∀{c:DC},JL c=true->renC σ c=c
 | .v s,h=>by simp only[JL]at h;simp only[renC,Xf σ h]
 | .kid _ rs,h=>by simp only[JL]at h;simp only[renC,Zf σ h]
theorem Ua(σ:Nat->Nat):∀{r:List DC},Ys r=true->Z0o σ r=r
 | [],_=>rfl
 |c::cs,h=>by simp only[Ys,Bool.and_eq_true]at h;simp only[Z0o,Z4H σ h.1,Ua σ h.2]
theorem Vs(σ:Nat->Nat):∀{r:List (List DC)},Zt r=true->XM σ r=r
 | [],_=>rfl
 |c::cs,h=>by simp only[Zt,Bool.and_eq_true]at h;simp only[XM,Ua σ h.1,Vs σ h.2]
theorem Zw(σ:Nat->Nat){h:Hp}(p:JW h=true):renH σ h=h:=by
 cases h<;>simp only[JW]at p<;>simp only[renH,ZI σ,Zf σ,Z13 σ,Vs σ,p]
section
variable {η η':Env}{σ:Nat->Nat}
def Fwd(η η':Env)(σ:Nat->Nat):Prop:=∀i x,η[i]?=some x->η'[σ i]?=some x
theorem Fwd.get(h:Fwd η η' σ){b:Blk}{x:Option Ent}(hb:η.get b=some x):η'.get (renB σ b)=some x:=by
 cases b with
 |glob g=>exact hb
 |loc i=>exact h i x hb
mutual
theorem Den.ren(h:Fwd η η' σ):∀{sv:SV} {v:Value},Den η sv v->Den η' (ren σ sv) v
 | .bool _,_,d=>d
 | .int _ _,_,d=>d
 | .str _,_,d=>d
 | .ptr b r es c,v,d=>by
   simp only[Den,Go.Sx.ren]at d⊢;obtain⟨e,h1,h2⟩:=d;exact⟨e,h.get h1,h2⟩
 | .sl b r es len lim,v,d=>by
   simp only[Den,Go.Sx.ren]at d⊢;rcases d with⟨h1,h2⟩|⟨e,o,h1,h2⟩
   ·exact .inl ⟨h.get h1,h2⟩
   ·exact .inr ⟨e,o,h.get h1,h2⟩
 | .val _,_,d=>d
 | .agg cs,v,d=>by
   simp only[Den,Go.Sx.ren]at d⊢;obtain⟨vs,h1,h2,h3⟩:=d;exact⟨vs,h1,DenL.ren h h2,h3⟩
 | .arr es rs,v,d=>by
   simp only[Den,Go.Sx.ren]at d⊢;obtain⟨vs,h1,h2,h3⟩:=d;exact⟨vs,h1,DenLL.ren h h2,h3⟩
 | .tup ts,v,d=>by
   simp only[Den,Go.Sx.ren]at d⊢;obtain⟨vs,h1,h2⟩:=d;exact⟨vs,h1,DenL.ren h h2⟩
 | .ifc t x,v,d=>by
   simp only[Den,Go.Sx.ren]at d⊢;obtain⟨u,h1,h2⟩:=d;exact⟨u,h1,Den.ren h h2⟩
 | .fn f a b,v,d=>by
   simp only[Den,Go.Sx.ren]at d⊢;obtain⟨us,vs,h1,h2,h3⟩:=d;exact⟨us,vs,h1,DenL.ren h h2,DenL.ren h h3⟩
 | .mp b,v,d=>by
   simp only[Den,Go.Sx.ren]at d⊢;obtain⟨e,h1,h2⟩:=d;exact⟨e,h.get h1,h2⟩
 | .yf b,v,d=>by
   simp only[Den,Go.Sx.ren]at d⊢;obtain⟨e,h1,h2⟩:=d;exact⟨e,h.get h1,h2⟩
 | .dfs _,_,d=>d
 | .any,_,d=>d
 | .nb _,_,d=>d
theorem DenL.ren(h:Fwd η η' σ):∀{cs:List SV} {vs:List Value},DenL η cs vs->DenL η' (renL σ cs) vs
 | [],_,d=>d
 |c::cs,vs,d=>by
  simp only[DenL,renL]at d⊢;obtain⟨u,us,h1,h2,h3⟩:=d;exact⟨u,us,h1,Den.ren h h2,DenL.ren h h3⟩
theorem DenLL.ren{es:Nat}(h:Fwd η η' σ):∀{rs:List (List SV)} {vs:List Value},DenLL η es rs vs->DenLL η' es (Xt σ rs) vs
 | [],_,d=>d
 |r::rs,vs,d=>by
  simp only[DenLL,Xt]at d⊢;obtain⟨us,ws,h1,h2,h3,h4⟩:=d;exact⟨us,ws,h1,h2,DenL.ren h h3,DenLL.ren h h4⟩
end
def Bwd(η η':Env)(σ:Nat->Nat)(k:Nat):Prop:=∀i x,i<k->η[σ i]?=some x->η'[i]?=some x
mutual
def ZQ(k:Nat):SV->Bool
 | .bool _| .int _ _| .str _| .val _| .any| .nb _=>true
 | .ptr b _ _ _=>WD k b
 | .sl b _ _ _ _=>WD k b
 | .agg cs=>ZM k cs
 | .arr _ rs=>Yt k rs
 | .tup vs=>ZM k vs
 | .ifc _ v=>ZQ k v
 | .fn _ a b=>ZM k a&&ZM k b
 | .mp b=>WD k b
 | .yf b=>WD k b
 | .dfs l=>ZM k l
def ZM(k:Nat):List SV->Bool
 | []=>true
 |c::cs=>ZQ k c&&ZM k cs
def Yt(k:Nat):List (List SV)->Bool
 | []=>true
 |r::rs=>ZM k r&&Yt k rs
def WD(k:Nat):Blk->Bool
 | .glob _=>true
 | .loc i=>Nat.blt i k
end
def WE(k:Nat):Fr->Bool
 | []=>true
 |(_,v)::r=>ZQ k v&&WE k r
def Z0p(k:Nat):DC->Bool
 | .v s=>ZQ k s
 | .kid _ rs=>Yt k rs
def XH(k:Nat):List DC->Bool
 | []=>true
 |c::cs=>Z0p k c&&XH k cs
def Yz(k:Nat):List (List DC)->Bool
 | []=>true
 |r::rs=>XH k r&&Yz k rs
def Zg(k:Nat):Hp->Bool
 | .box row=>ZM k row
 | .rows _ rs=>Yt k rs
 | .siter _ _=>true
 | .tbl _=>true
 | .bld _ _ _=>true
 | .mp rs=>Yt k rs
 | .dfr _=>true
 | .lp _ _ fr=>WE k fr
 | .deep _ _ rs=>Yz k rs
mutual
theorem XI(k:Nat):∀{v:SV},plain v=true->ZQ k v=true
 | .bool _,_=>rfl
 | .int _ _,_=>rfl
 | .str _,_=>rfl
 | .val _,_=>rfl
 | .any,_=>rfl
 | .nb _,_=>rfl
 | .ptr (.glob _) _ _ _,_=>rfl
 | .ptr (.loc _) _ _ _,h=>by simp[plain]at h
 | .sl (.glob _) _ _ _ _,_=>rfl
 | .sl (.loc _) _ _ _ _,h=>by simp[plain]at h
 | .agg cs,h=>by simp only[plain]at h;simp only[ZQ,Zy k h]
 | .arr _ rs,h=>by simp only[plain]at h;simp only[ZQ,Z2 k h]
 | .tup vs,h=>by simp only[plain]at h;simp only[ZQ,Zy k h]
 | .ifc _ v,h=>by simp only[plain]at h;simp only[ZQ,XI k h]
 | .fn _ a b,h=>by simp only[plain,Bool.and_eq_true]at h;simp only[ZQ,Zy k h.1,Zy k h.2,Bool.and_self]
 | .mp (.glob _),_=>rfl
 | .mp (.loc _),h=>by simp[plain]at h
 | .yf _,h=>by simp[plain]at h
 | .dfs _,h=>by simp[plain]at h
theorem Zy(k:Nat):∀{vs:List SV},YK vs=true->ZM k vs=true
 | [],_=>rfl
 |c::cs,h=>by simp only[YK,Bool.and_eq_true]at h;simp only[ZM,XI k h.1,Zy k h.2,Bool.and_self]
theorem Z2(k:Nat):∀{vs:List (List SV)},Zh vs=true->Yt k vs=true
 | [],_=>rfl
 |c::cs,h=>by simp only[Zh,Bool.and_eq_true]at h;simp only[Yt,Zy k h.1,Z2 k h.2,Bool.and_self]
end
theorem UP(k:Nat):∀{fr:Fr},Z4w fr=true->WE k fr=true
 | [],_=>rfl
 |(t,v)::r,h=>by simp only[Z4w,Bool.and_eq_true]at h;simp only[WE,XI k h.1,UP k h.2,Bool.and_self]
theorem Z1F(k:Nat):∀{c:DC},JL c=true->Z0p k c=true
 | .v s,h=>by simp only[JL]at h;simp only[Z0p,XI k h]
 | .kid _ rs,h=>by simp only[JL]at h;simp only[Z0p,Z2 k h]
theorem JQ(k:Nat):∀{r:List DC},Ys r=true->XH k r=true
 | [],_=>rfl
 |c::cs,h=>by simp only[Ys,Bool.and_eq_true]at h;simp only[XH,Z1F k h.1,JQ k h.2,Bool.and_self]
theorem Jp(k:Nat):∀{r:List (List DC)},Zt r=true->Yz k r=true
 | [],_=>rfl
 |c::cs,h=>by simp only[Zt,Bool.and_eq_true]at h;simp only[Yz,JQ k h.1,Jp k h.2,Bool.and_self]
theorem YA(k:Nat){h:Hp}(p:JW h=true):Zg k h=true:=by
 cases h<;>simp only[JW]at p<;>simp only[Zg,Zy k,Z2 k,UP k,Jp k,p]
variable {k:Nat}
theorem Bwd.get(h:Bwd η η' σ k){b:Blk}{x:Option Ent}(hk:WD k b=true)(hb:η.get (renB σ b)=some x):η'.get b=some x:=by
 cases b with
 |glob g=>exact hb
 |loc i=>exact h i x (by simpa[WD]using hk) hb
mutual
theorem Den.unren(h:Bwd η η' σ k):∀{sv:SV} {v:Value},ZQ k sv=true->Den η (ren σ sv) v->Den η' sv v
 | .bool _,_,_,d=>d
 | .int _ _,_,_,d=>d
 | .str _,_,_,d=>d
 | .ptr b r es c,v,hk,d=>by
   simp only[Den,Go.Sx.ren]at d⊢;obtain⟨e,h1,h2⟩:=d;exact⟨e,h.get (by simpa[ZQ]using hk) h1,h2⟩
 | .sl b r es len lim,v,hk,d=>by
   simp only[Den,Go.Sx.ren]at d⊢;rcases d with⟨h1,h2⟩|⟨e,o,h1,h2⟩
   ·exact .inl ⟨h.get (by simpa[ZQ]using hk) h1,h2⟩
   ·exact .inr ⟨e,o,h.get (by simpa[ZQ]using hk) h1,h2⟩
 | .val _,_,_,d=>d
 | .agg cs,v,hk,d=>by
   simp only[ZQ]at hk;simp only[Den,Go.Sx.ren]at d⊢;obtain⟨vs,h1,h2,h3⟩:=d;exact⟨vs,h1,DenL.unren h hk h2,h3⟩
 | .arr es rs,v,hk,d=>by
   simp only[ZQ]at hk;simp only[Den,Go.Sx.ren]at d⊢;obtain⟨vs,h1,h2,h3⟩:=d;exact⟨vs,h1,DenLL.unren h hk h2,h3⟩
 | .tup ts,v,hk,d=>by
   simp only[ZQ]at hk;simp only[Den,Go.Sx.ren]at d⊢;obtain⟨vs,h1,h2⟩:=d;exact⟨vs,h1,DenL.unren h hk h2⟩
 | .ifc t x,v,hk,d=>by
   simp only[ZQ]at hk;simp only[Den,Go.Sx.ren]at d⊢;obtain⟨u,h1,h2⟩:=d;exact⟨u,h1,Den.unren h hk h2⟩
 | .fn f a b,v,hk,d=>by
   simp only[ZQ,Bool.and_eq_true]at hk;simp only[Den,Go.Sx.ren]at d⊢;obtain⟨us,vs,h1,h2,h3⟩:=d;exact⟨us,vs,h1,DenL.unren h hk.1 h2,DenL.unren h hk.2 h3⟩
 | .mp b,v,hk,d=>by
   simp only[Den,Go.Sx.ren]at d⊢;obtain⟨e,h1,h2⟩:=d;exact⟨e,h.get (by simpa[ZQ]using hk) h1,h2⟩
 | .yf b,v,hk,d=>by
   simp only[Den,Go.Sx.ren]at d⊢;obtain⟨e,h1,h2⟩:=d;exact⟨e,h.get (by simpa[ZQ]using hk) h1,h2⟩
 | .dfs _,_,_,d=>d
 | .any,_,_,d=>d
 | .nb _,_,_,d=>d
theorem DenL.unren(h:Bwd η η' σ k):∀{cs:List SV} {vs:List Value},ZM k cs=true->DenL η (renL σ cs) vs->DenL η' cs vs
 | [],_,_,d=>d
 |c::cs,vs,hk,d=>by
  simp only[ZM,Bool.and_eq_true]at hk;simp only[DenL,renL]at d⊢;obtain⟨u,us,h1,h2,h3⟩:=d;exact⟨u,us,h1,Den.unren h hk.1 h2,DenL.unren h hk.2 h3⟩
theorem DenLL.unren{es:Nat}(h:Bwd η η' σ k):∀{rs:List (List SV)} {vs:List Value},Yt k rs=true->DenLL η es (Xt σ rs) vs->DenLL η' es rs vs
 | [],_,_,d=>d
 |r::rs,vs,hk,d=>by
  simp only[Yt,Bool.and_eq_true]at hk;simp only[DenLL,Xt]at d⊢;obtain⟨us,ws,h1,h2,h3,h4⟩:=d;exact⟨us,ws,h1,h2,DenL.unren h hk.1 h3,DenLL.unren h hk.2 h4⟩
end
theorem Z5w:∀{row:List SV} {j:Nat},(renL σ row)[j]?=(row[j]?).map (ren σ)
 | [],j=>by simp[renL]
 |c::cs,0=>by simp[renL]
 |c::cs,j+1=>by simp[renL,Z5w (row:=cs) (j:=j)]
theorem Ub:∀{row:List SV},(renL σ row).length=row.length
 | []=>rfl
 |c::cs=>by simp[renL,Ub (row:=cs)]
theorem Xg:∀{rs:List (List SV)} {j:Nat},(Xt σ rs)[j]?=(rs[j]?).map (renL σ)
 | [],j=>by simp[Xt]
 |c::cs,0=>by simp[Xt]
 |c::cs,j+1=>by simp[Xt,Xg (rs:=cs) (j:=j)]
theorem Y8:∀{row:List (List SV)},(Xt σ row).length=row.length
 | []=>rfl
 |c::cs=>by simp[Xt,Y8 (row:=cs)]
theorem Z4I:∀{row:List SV} {j:Nat} {c:SV},ZM k row=true->row[j]?=some c->ZQ k c=true
 | [],j,c,_,h=>by simp at h
 |d::cs,0,c,hk,h=>by simp only[ZM,Bool.and_eq_true]at hk;simp at h;subst h;exact hk.1
 |d::cs,j+1,c,hk,h=>by simp only[ZM,Bool.and_eq_true]at hk;simp at h;exact Z4I hk.2 h
theorem Jc:∀{rs:List (List SV)} {j:Nat} {c:List SV},Yt k rs=true->rs[j]?=some c->ZM k c=true
 | [],j,c,_,h=>by simp at h
 |d::cs,0,c,hk,h=>by simp only[Yt,Bool.and_eq_true]at hk;simp at h;subst h;exact hk.1
 |d::cs,j+1,c,hk,h=>by simp only[Yt,Bool.and_eq_true]at hk;simp at h;exact Jc hk.2 h
theorem CellsAt.ren(h:Fwd η η' σ){arr:Array Value}{o:Nat}{row:List SV}(d:CellsAt η arr o row):CellsAt η' arr o (renL σ row):=by
 intro j sv hj;rw[Z5w]at hj;cases hr:row[j]? with
 |none=>rw[hr]at hj;cases hj
 |some c=>
  rw[hr]at hj;simp only[Option.map_some,Option.some.injEq]at hj;subst hj;obtain⟨v,h1,h2,h3⟩:=d j c hr;exact⟨v,h1,h2,h3.ren h⟩
theorem CellsAt.unren(h:Bwd η η' σ k){arr:Array Value}{o:Nat}{row:List SV}(hk:ZM k row=true)(d:CellsAt η arr o (renL σ row)):CellsAt η' arr o row:=by
 intro j sv hj;obtain⟨v,h1,h2,h3⟩:=d j (Go.Sx.ren σ sv) (by rw[Z5w,hj];rfl);exact⟨v,h1,h2,h3.unren h (Z4I hk hj)⟩
theorem Z9D:∀{fr:Fr} {t:Nat} {v:SV},lkp t (renF σ fr)=some v->∃u,lkp t fr=some u/\v=ren σ u
 | [],t,v,h=>by simp[renF,lkp]at h
 |(d,u)::r,t,v,h=>by
  simp only[renF]at h;rw[Z6]at h⊢;split at h
  ·rename_i e;subst e;injection h with h;exact⟨u,by simp,h.symm⟩
  ·rename_i e;rw[if_neg e];exact Z9D h
theorem Z6R:∀{fr:Fr} {t:Nat} {u:SV},lkp t fr=some u->lkp t (renF σ fr)=some (ren σ u)
 | [],t,v,h=>by simp[lkp]at h
 |(d,u)::r,t,v,h=>by
  simp only[renF];rw[Z6]at h⊢;split at h
  ·rename_i e;subst e;injection h with h;subst h;rw[if_pos rfl]
  ·rename_i e;rw[if_neg e];exact Z6R h
theorem Z4J:∀{fr:Fr} {t:Nat} {v:SV},WE k fr=true->lkp t fr=some v->ZQ k v=true
 | [],t,v,_,h=>by simp[lkp]at h
 |(d,u)::r,t,v,hb,h=>by
  simp only[WE,Bool.and_eq_true]at hb;rw[Z6]at h;split at h
  ·injection h with h;subst h;exact hb.1
  ·exact Z4J hb.2 h
theorem TmpsOK.ren(h:Fwd η η' σ){tmps:Array Value}{fr:Fr}(d:TmpsOK η tmps fr):TmpsOK η' tmps (renF σ fr):=fun t sv ht=>by
 obtain⟨u,h1,rfl⟩:=Z9D ht;exact(d t u h1).ren h
theorem TmpsOK.unren(h:Bwd η η' σ k){tmps:Array Value}{fr:Fr}(hk:WE k fr=true)(d:TmpsOK η tmps (renF σ fr)):TmpsOK η' tmps fr:=fun t sv ht=>
 (d t _ (Z6R ht)).unren h (Z4J hk ht)
theorem LpSat.ren(h:Fwd η η' σ){r:Loop}{st:LpS}{li:LpI}{fr:Fr}(d:LpSat η r st li fr):LpSat η' r st li (renF σ fr):=
 let⟨h1,h2,h3,h4,h5,h6,h7⟩:=d;⟨h1,h2,h3,h4,h5,h6,h7.ren h⟩
theorem LpSat.unren(h:Bwd η η' σ k){r:Loop}{st:LpS}{li:LpI}{fr:Fr}(hk:WE k fr=true)(d:LpSat η r st li (renF σ fr)):LpSat η' r st li fr:=
 let⟨h1,h2,h3,h4,h5,h6,h7⟩:=d;⟨h1,h2,h3,h4,h5,h6,h7.unren h hk⟩
theorem DfL.unren(h:Bwd η η' σ k):∀{l:List SV} {ds:List Deferred},ZM k l=true->DfL η (renL σ l) ds->DfL η' l ds
 | [],ds,_,d=>d
 |c::l,ds,hk,d=>by
  simp only[ZM,Bool.and_eq_true]at hk;cases c with
  |ptr b _ _ _=>
   simp only[DfL,renL,Go.Sx.ren]at d⊢;obtain⟨e,r,h1,h2,h3⟩:=d;exact⟨e,r,h.get (by simpa[ZQ]using hk.1) h1,h2,DfL.unren h hk.2 h3⟩
  |val v=>
   simp only[DfL,renL,Go.Sx.ren]at d⊢;obtain⟨f,r,h1,h2,h3⟩:=d;exact⟨f,r,h1,h2,DfL.unren h hk.2 h3⟩
  |fn f x y=>
   simp only[DfL,renL,Go.Sx.ren]at d⊢;obtain⟨us,vs,r,h1,h2,h3,h4⟩:=d;have hb:ZM k x=true/\ZM k y=true:=by simpa[ZQ]using hk.1
   exact⟨us,vs,r,DenL.unren h hb.1 h1,DenL.unren h hb.2 h2,h3,DfL.unren h hk.2 h4⟩
  |_=>simp only[DfL,renL,Go.Sx.ren]at d
theorem KidSat.ren(h:Fwd η η' σ){w:World}{v:Value}{es:Nat}{rows:List (List SV)}(d:KidSat η w v es rows):KidSat η' w v es (Xt σ rows):=by
 rcases d with⟨h1,rfl⟩|⟨g,cap,arr,T,fz,h1,h2,h3,h4,h5,h6⟩
 ·exact .inl ⟨h1,rfl⟩
 ·refine .inr ⟨g,cap,arr,T,fz,by rw[Y8];exact h1,h2,h3,h4,by rw[Y8];exact h5,fun j row hr=>?_⟩;rw[Xg]at hr;cases hq:rows[j]? with
  |none=>rw[hq]at hr;cases hr
  |some q=>
   rw[hq]at hr;simp only[Option.map_some,Option.some.injEq]at hr;subst hr;rw[Ub];exact⟨(h6 j q hq).1,(h6 j q hq).2.ren h⟩
theorem KidSat.unren(h:Bwd η η' σ k){w:World}{v:Value}{es:Nat}{rows:List (List SV)}(hk:Yt k rows=true)(d:KidSat η w v es (Xt σ rows)):KidSat η' w v es rows:=by
 rcases d with⟨h1,h0⟩|⟨g,cap,arr,T,fz,h1,h2,h3,h4,h5,h6⟩
 ·refine .inl ⟨h1,?_⟩;have:=congrArg List.length h0;rw[Y8]at this;exact List.length_eq_zero_iff.1 this
 ·refine .inr ⟨g,cap,arr,T,fz,by rw[Y8]at h1;exact h1,h2,h3,h4,by rw[Y8]at h5;exact h5,fun j row hr=>?_⟩;obtain⟨p1,p2⟩:=h6 j (renL σ row) (by rw[Xg,hr];rfl);rw[Ub]at p1;exact⟨p1,p2.unren h (Jc hk hr)⟩
theorem KidsOK.ren(h:Fwd η η' σ){w:World}{g:Nat}{o:Obj}{es:Nat}{rs:List (List DC)}(d:KidsOK η w g o es rs):KidsOK η' w g o es (XM σ rs):=by
 refine⟨fun i j es' rows hk=>?_,fun i j i' j' x x' v v' k h1 h2 h3 h4 h5 h6=>?_⟩
 ·rw[V5]at hk;cases hq:Yd rs i j with
  |none=>rw[hq]at hk;cases hk
  |some x=>
   rw[hq]at hk;obtain⟨es0,rows0⟩:=x;simp only[Option.map_some,Option.some.injEq,Prod.mk.injEq]at hk;obtain⟨rfl,rfl⟩:=hk;obtain⟨v,g1,g2,g3⟩:=d.sat i j _ _ hq;exact⟨v,g1,g2.ren h,g3⟩
 ·rw[V5]at h1 h2;obtain⟨y,hy,_⟩:=Option.map_eq_some_iff.1 h1;obtain⟨y',hy',_⟩:=Option.map_eq_some_iff.1 h2;exact d.ne i j i' j' y y' v v' k hy hy' h3 h4 h5 h6
theorem Z34:∀{row:List DC} {j:Nat} {c:DC},XH k row=true->row[j]?=some c->Z0p k c=true
 | [],j,c,_,h=>by simp at h
 |d::cs,0,c,hk,h=>by simp only[XH,Bool.and_eq_true]at hk;simp at h;subst h;exact hk.1
 |d::cs,j+1,c,hk,h=>by simp only[XH,Bool.and_eq_true]at hk;simp at h;exact Z34 hk.2 h
theorem Z1G:∀{rs:List (List DC)} {j:Nat} {c:List DC},Yz k rs=true->rs[j]?=some c->XH k c=true
 | [],j,c,_,h=>by simp at h
 |d::cs,0,c,hk,h=>by simp only[Yz,Bool.and_eq_true]at hk;simp at h;subst h;exact hk.1
 |d::cs,j+1,c,hk,h=>by simp only[Yz,Bool.and_eq_true]at hk;simp at h;exact Z1G hk.2 h
theorem Z8q{rs:List (List DC)}{i j es:Nat}{rows:List (List SV)}(hk:Yz k rs=true)(h:Yd rs i j=some (es,rows)):Yt k rows=true:=by
 unfold Yd at h;split at h
 ·rename_i row hr;split at h
  ·rename_i es' rows' hc;simp only[Option.some.injEq,Prod.mk.injEq]at h;obtain⟨rfl,rfl⟩:=h;exact Z34 (Z1G hk hr) hc
  ·cases h
 ·cases h
theorem Z35:∀{r:List DC},XH k r=true->ZM k (r.map ZN)=true
 | [],_=>rfl
 |c::cs,h=>by
  simp only[XH,Bool.and_eq_true]at h;simp only[List.map_cons,ZM,Z35 h.2,Bool.and_true];cases c with
  |v s=>exact h.1
  |kid es rows=>rfl
theorem Jw:∀{r:List (List DC)},Yz k r=true->Yt k (Zs r)=true
 | [],_=>rfl
 |c::cs,h=>by
  simp only[Yz,Bool.and_eq_true]at h;have:=Jw h.2;unfold Zs at this⊢;simp only[List.map_cons,Yt,Z35 h.1,this,Bool.and_self]
theorem KidsOK.unren(h:Bwd η η' σ k){w:World}{g:Nat}{o:Obj}{es:Nat}{rs:List (List DC)}(hk:Yz k rs=true)(d:KidsOK η w g o es (XM σ rs)):KidsOK η' w g o es rs:=by
 refine⟨fun i j es' rows hkd=>?_,fun i j i' j' x x' v v' k h1 h2 h3 h4 h5 h6=>?_⟩
 ·obtain⟨v,g1,g2,g3⟩:=d.sat i j es' (Xt σ rows) (by rw[V5,hkd];rfl);exact⟨v,g1,g2.unren h (Z8q hk hkd),g3⟩
 ·exact d.ne i j i' j' _ _ v v' k (by rw[V5,h1];rfl) (by rw[V5,h2];rfl) h3 h4 h5 h6
theorem DeepSat.ren(h:Fwd η η' σ){w:World}{i es:Nat}{rs:List (List DC)}{x:Option Ent}(hx:η.get (.loc i)=some x)(d:DeepSat η w (.loc i) es rs):DeepSat η' w (.loc (σ i)) es (XM σ rs):=by
 intro e he;have:=h.get (b:= .loc i) hx;rw[show η'.get (renB σ (.loc i))=some (some e)from he]at this;injection this with this;subst this;obtain⟨h1,h2⟩:=d e hx;exact⟨h1,fun o ho=>(h2 o ho).ren h⟩
theorem HpSat.ren(h:Fwd η η' σ){w:World}{own:Bool}{i:Nat}{hp:Hp}(d:HpSat η w own (.loc i) hp):HpSat η' w own (.loc (σ i)) (renH σ hp):=by
 have hg:∀{x},η.get (.loc i)=some x->η'.get (.loc (σ i))=some x:=fun hx=>h.get (b:= .loc i) hx;cases hp with
 |box row=>
  simp only[HpSat,renH]at d⊢;obtain⟨e,arr,T,fz,h1,h2,h3,h4⟩:=d;exact⟨e,arr,T,fz,hg h1,h2,h3,h4.ren h⟩
 |rows es rs=>
  simp only[HpSat,renH]at d⊢;rcases d with⟨h1,rfl⟩|⟨e,arr,T,fz,h1,h2,h3,h4⟩
  ·exact .inl ⟨hg h1,rfl⟩
  ·refine .inr ⟨e,arr,T,fz,hg h1,h2,by rw[Y8];exact h3,fun j row hr=>?_⟩;rw[Xg]at hr;cases hq:rs[j]? with
   |none=>rw[hq]at hr;cases hr
   |some q=>
    rw[hq]at hr;simp only[Option.map_some,Option.some.injEq]at hr;subst hr;rw[Ub];exact⟨(h4 j q hq).1,(h4 j q hq).2.ren h⟩
 |tbl vs=>
  simp only[HpSat,renH]at d⊢;obtain⟨e,h1,h2⟩:=d;exact⟨e,hg h1,h2⟩
 |siter s p=>
  simp only[HpSat,renH]at d⊢;obtain⟨e,h1,h2⟩:=d;exact⟨e,hg h1,h2⟩
 |mp rs=>
  simp only[HpSat,renH]at d⊢;obtain⟨e,es,h1,h2,h3,h4,h5⟩:=d;refine⟨e,es,hg h1,h2,h3,by rw[Y8];exact h4,fun j row hr=>?_⟩;rw[Xg]at hr;cases hq:rs[j]? with
  |none=>rw[hq]at hr;cases hr
  |some q=>
   rw[hq]at hr;simp only[Option.map_some,Option.some.injEq]at hr;subst hr;obtain⟨en,g1,g2,g3⟩:=h5 j q hq;exact⟨en,g1,g2,g3.ren h⟩
 |dfr f=>
  simp only[HpSat,renH]at d⊢;obtain⟨e,h1,h2⟩:=d;exact⟨e,hg h1,h2⟩
 |lp st li fr=>
  simp only[HpSat,renH]at d⊢;obtain⟨e,r,h1,h2,h3,h4⟩:=d;exact⟨e,r,hg h1,h2,h3,h4.ren h⟩
 |bld T t l=>
  simp only[HpSat,renH]at d⊢;obtain⟨e,h1,h2⟩:=d;exact⟨e,hg h1,h2⟩
 |deep mp es rs=>
  cases mp
  ·simp only[HpSat,renH,VT]at d⊢;obtain⟨d1,d2⟩:=d;obtain⟨x,hx,_⟩:=d1.ent;refine⟨?_,d2.ren h hx⟩;rcases d1 with⟨h1,h0⟩|⟨e,arr,T,fz,h1,h2,h3,h4⟩
   ·exact .inl ⟨hg h1,by rw[h0];rfl⟩
   ·refine .inr ⟨e,arr,T,fz,hg h1,h2,by rw[Y8];exact h3,fun j row hr=>?_⟩;rw[Xg]at hr;cases hq:(Zs rs)[j]? with
    |none=>rw[hq]at hr;cases hr
    |some q=>
     rw[hq]at hr;simp only[Option.map_some,Option.some.injEq]at hr;subst hr;rw[Ub];exact⟨(h4 j q hq).1,(h4 j q hq).2.ren h⟩
  ·simp only[HpSat,renH,VT]at d⊢;obtain⟨⟨d1,d0⟩,d2⟩:=d;obtain⟨x,hx,_⟩:=d1.ent;refine⟨⟨?_,d0⟩,d2.ren h hx⟩;obtain⟨e,es,h1,h2,h3,h4,h5⟩:=d1;refine⟨e,es,hg h1,h2,h3,by rw[Y8];exact h4,fun j row hr=>?_⟩;rw[Xg]at hr;cases hq:(Zs rs)[j]? with
   |none=>rw[hq]at hr;cases hr
   |some q=>
    rw[hq]at hr;simp only[Option.map_some,Option.some.injEq]at hr;subst hr;obtain⟨en,g1,g2,g3⟩:=h5 j q hq;exact⟨en,g1,g2,g3.ren h⟩
theorem RowsSat.unren(h:Bwd η η' σ k){w:World}{own:Bool}{b b':Blk}(hg:∀{x},η.get b=some x->η'.get b'=some x){es:Nat}{rs:List (List SV)}(hk:Yt k rs=true)(d:RowsSat η w own b es (Xt σ rs)):RowsSat η' w own b' es rs:=by
 rcases d with⟨h1,h0⟩|⟨e,arr,T,fz,h1,h2,h3,h4⟩
 ·refine .inl ⟨hg h1,?_⟩;have:=congrArg List.length h0;rw[Y8]at this;exact List.length_eq_zero_iff.1 this
 ·refine .inr ⟨e,arr,T,fz,hg h1,h2,by rw[Y8]at h3;exact h3,fun j row hr=>?_⟩;obtain⟨p1,p2⟩:=h4 j (renL σ row) (by rw[Xg,hr];rfl);rw[Ub]at p1;exact⟨p1,p2.unren h (Jc hk hr)⟩
theorem MpSat.unren(h:Bwd η η' σ k){w:World}{b b':Blk}(hg:∀{x},η.get b=some x->η'.get b'=some x){rs:List (List SV)}(hk:Yt k rs=true)(d:MpSat η w b (Xt σ rs)):MpSat η' w b' rs:=by
 obtain⟨e,es,h1,h2,h3,h4,h5⟩:=d;refine⟨e,es,hg h1,h2,h3,by rw[Y8]at h4;exact h4,fun j row hr=>?_⟩;obtain⟨en,g1,g2,g3⟩:=h5 j (renL σ row) (by rw[Xg,hr];rfl);exact⟨en,g1,g2,g3.unren h (Jc hk hr)⟩
theorem DeepSat.unren(h:Bwd η η' σ k){w:World}{b b':Blk}(hg:∀{x},η.get b=some x->η'.get b'=some x){es:Nat}{rs:List (List DC)}{x:Option Ent}(hx:η.get b=some x)(hk:Yz k rs=true)(d:DeepSat η w b es (XM σ rs)):DeepSat η' w b' es rs:=by
 intro e he;have:=hg hx;rw[he]at this;injection this with this;subst this;obtain⟨h1,h2⟩:=d e hx;exact⟨h1,fun o ho=>(h2 o ho).unren h hk⟩
theorem HpSat.unren(h:Bwd η η' σ k){w:World}{own:Bool}{i:Nat}(hi:i<k){hp:Hp}(hk:Zg k hp=true)(d:HpSat η w own (.loc (σ i)) (renH σ hp)):HpSat η' w own (.loc i) hp:=by
 have hg:∀{x},η.get (.loc (σ i))=some x->η'.get (.loc i)=some x:=fun hx=>h i _ hi hx;cases hp with
 |box row=>
  simp only[HpSat,renH]at d⊢;obtain⟨e,arr,T,fz,h1,h2,h3,h4⟩:=d;exact⟨e,arr,T,fz,hg h1,h2,h3,h4.unren h hk⟩
 |rows es rs=>
  simp only[HpSat,renH]at d⊢;rcases d with⟨h1,h0⟩|⟨e,arr,T,fz,h1,h2,h3,h4⟩
  ·refine .inl ⟨hg h1,?_⟩;have:=congrArg List.length h0;rw[Y8]at this;exact List.length_eq_zero_iff.1 this
  ·refine .inr ⟨e,arr,T,fz,hg h1,h2,by rw[Y8]at h3;exact h3,fun j row hr=>?_⟩;obtain⟨p1,p2⟩:=h4 j (renL σ row) (by rw[Xg,hr];rfl);rw[Ub]at p1;exact⟨p1,p2.unren h (Jc hk hr)⟩
 |tbl vs=>
  simp only[HpSat,renH]at d⊢;obtain⟨e,h1,h2⟩:=d;exact⟨e,hg h1,h2⟩
 |siter s p=>
  simp only[HpSat,renH]at d⊢;obtain⟨e,h1,h2⟩:=d;exact⟨e,hg h1,h2⟩
 |mp rs=>
  simp only[HpSat,renH]at d⊢;obtain⟨e,es,h1,h2,h3,h4,h5⟩:=d;refine⟨e,es,hg h1,h2,h3,by rw[Y8]at h4;exact h4,fun j row hr=>?_⟩;obtain⟨en,g1,g2,g3⟩:=h5 j (renL σ row) (by rw[Xg,hr];rfl);exact⟨en,g1,g2,g3.unren h (Jc hk hr)⟩
 |dfr f=>
  simp only[HpSat,renH]at d⊢;obtain⟨e,h1,h2⟩:=d;exact⟨e,hg h1,h2⟩
 |lp st li fr=>
  simp only[HpSat,renH]at d⊢;obtain⟨e,r,h1,h2,h3,h4⟩:=d;exact⟨e,r,hg h1,h2,h3,h4.unren h hk⟩
 |bld T t l=>
  simp only[HpSat,renH]at d⊢;obtain⟨e,h1,h2⟩:=d;exact⟨e,hg h1,h2⟩
 |deep mp es rs=>
  cases mp
  ·simp only[HpSat,renH,VT]at d⊢;obtain⟨d1,d2⟩:=d;obtain⟨x,hx,_⟩:=d1.ent;exact⟨d1.unren h hg (Jw hk),d2.unren h hg hx hk⟩
  ·simp only[HpSat,renH,VT]at d⊢;obtain⟨⟨d1,d0⟩,d2⟩:=d;obtain⟨x,hx,_⟩:=d1.ent;exact⟨⟨d1.unren h hg (Jw hk),d0⟩,d2.unren h hg hx hk⟩
end
theorem CellsAt.plain{η η':Env}{arr:Array Value}{o:Nat}{row:List SV}(hp:YK row=true)(d:CellsAt η arr o row):CellsAt η' arr o row:=
 CellsAt.unren (σ:=id) (k:=0) (fun i x hi=>by omega) (Zy 0 hp) (by rw[ZI _ hp];exact d)
theorem Jd:∀{rs:List (List SV)} {i:Nat} {row:List SV},Zh rs=true->rs[i]?=some row->YK row=true
 | [],i,row,_,h=>by simp at h
 |r::rs,0,row,hp,h=>by simp only[Zh,Bool.and_eq_true]at hp;simp at h;subst h;exact hp.1
 |r::rs,i+1,row,hp,h=>by simp only[Zh,Bool.and_eq_true]at hp;simp at h;exact Jd hp.2 h
theorem HpSat.plain{η η':Env}{w:World}{own:Bool}{g:Nat}{h:Hp}(d:HpSat η w own (.glob g) h)(hp:JW h=true):HpSat η' w own (.glob g) h:=by
 cases h with
 |box row=>
  simp only[JW]at hp;simp only[HpSat]at d⊢;obtain⟨e,arr,T,fz,h1,h2,h3,h4⟩:=d;exact⟨e,arr,T,fz,h1,h2,h3,h4.plain hp⟩
 |rows es rs=>
  simp only[JW]at hp;simp only[HpSat]at d⊢;rcases d with⟨h1,h2⟩|⟨e,arr,T,fz,h1,h2,h3,h4⟩
  ·exact .inl ⟨h1,h2⟩
  ·exact .inr ⟨e,arr,T,fz,h1,h2,h3,fun i row hr=>⟨(h4 i row hr).1,(h4 i row hr).2.plain (Jd hp hr)⟩⟩
 |mp rs=>
  simp only[JW]at hp;simp only[HpSat]at d⊢;obtain⟨e,es,h1,h2,h3,h4,h5⟩:=d;exact⟨e,es,h1,h2,h3,h4,fun i row hr=>let⟨en,g1,g2,g3⟩:=h5 i row hr;⟨en,g1,g2,DenL.unren (σ:=id) (k:=0) (fun i x hi=>by omega) (Zy 0 (Jd hp hr)) (by rw[ZI _ (Jd hp hr)];exact g3)⟩⟩
 |siter s p=>exact d
 |tbl vs=>exact d
 |dfr f=>exact d
 |lp st li fr=>
  simp only[JW]at hp;simp only[HpSat]at d⊢;obtain⟨e,r,h1,h2,h3,h4⟩:=d;exact⟨e,r,h1,h2,h3,LpSat.unren (σ:=id) (k:=0) (fun i x hi=>by omega) (UP 0 hp) (by rw[Z13 _ hp];exact h4)⟩
 |bld T t l=>exact d
 |deep mp es rs=>
  simp only[JW]at hp;have hb:=Jp 0 hp;have hB:Bwd η η' id 0:=fun i x hi=>by omega
  have e1:XM id rs=rs:=Vs id hp;have hg:∀{x},η.get (.glob g)=some x->η'.get (.glob g)=some x:=fun hx=>hx;rw[<-e1]at d;cases mp
  ·simp only[HpSat,VT]at d⊢;obtain⟨d1,d2⟩:=d;obtain⟨x,hx,_⟩:=d1.ent;exact⟨d1.unren hB hg (Jw hb),d2.unren hB hg hx hb⟩
  ·simp only[HpSat,VT]at d⊢;obtain⟨⟨d1,d0⟩,d2⟩:=d;obtain⟨x,hx,_⟩:=d1.ent;exact⟨⟨d1.unren hB hg (Jw hb),d0⟩,d2.unren hB hg hx hb⟩
def Yk(η:Env)(w:World)(O:Hps):Nat->Prop:=fun g=> ∃i h,lkp i O=some h/\feet η w (.loc i) h g
theorem kid_renH{σ:Nat->Nat}{w:World}{g k:Nat}{h:Hp}:kid w g (renH σ h) k<->kid w g h k:=by
 cases h with
 |deep mp es rs=>
  simp only[renH,kid];constructor
  ·rintro⟨o,i,j,x,v,h1,h2,h3,h4⟩;rw[V5]at h2;obtain⟨y,hy,_⟩:=Option.map_eq_some_iff.1 h2;exact⟨o,i,j,y,v,h1,hy,h3,h4⟩
  ·rintro⟨o,i,j,x,v,h1,h2,h3,h4⟩;exact⟨o,i,j,_,v,h1,by rw[V5,h2];rfl,h3,h4⟩
 |_=>exact Iff.rfl
theorem feet.ren{σ:Nat->Nat}{η η':Env}{w:World}{i k:Nat}{h:Hp}(hg:∀x,η[i]?=some x->η'[σ i]?=some x)(f:feet η w (.loc i) h k):feet η' w (.loc (σ i)) (renH σ h) k:=
 let⟨e,h1,h2⟩:=f;⟨e,hg _ h1,h2.imp id kid_renH.2⟩
theorem feet.unren{σ:Nat->Nat}{η η':Env}{w:World}{i k:Nat}{h:Hp}(hg:∀x,η'[σ i]?=some x->η[i]?=some x)(f:feet η' w (.loc (σ i)) (renH σ h) k):feet η w (.loc i) h k:=
 let⟨e,h1,h2⟩:=f;⟨e,hg _ h1,h2.imp id kid_renH.1⟩
def shB(S:Hps):List (Blk×Hp):=S.map fun p=>(Blk.loc p.1,p.2)
structure Does(P:Program)(T:Tab)(f:FuncId)(k:Nat)(args:List SV)(O S:Hps)(Q:SV->Hps->Nat->Prop):Prop where
 out:∀(M:Mx) (vs:List Value),M.P=P->M.C.T=T->M.F=Yk M.η0 M.w0 O->M.C.S=shB S->HeapOK M M.η0 M.w0 O k->DenL M.η0 args vs->
  Invokes M.P f ⟨vs⟩ M.w0 fun v w'=> ∃r O' nx' η',Q r O' nx'/\M.η0<+:η'/\HeapOK M η' w' O' nx'/\Den η' r v
def UD:Nat->List SV->Fr
 |_,[]=>[]
 |n,v::vs=>(n,v)::UD (n+1) vs
def ZfB(p:Prop)(_:Res)(k:ResV):ResV:=fun K=>NEED p (k K)
def Zhu(rs:List (List SV))(i:Nat)(_:List SV->Res)(f:List SV->ResV):ResV:=fun K=>GET rs i fun row=>WB row fun row=>f row K
def Z0q:ResV:=fun _=>STOP "result"
noncomputable def Res.gv (r:Res):ResV:=
 Res.rec (motive:=fun _=>ResV) Ze7 (fun _ _=>Z0q) (fun _ _ _=>Z0q) (fun _ _ _=>Z0q) ZfB Zhu (fun _ _ _ _ _=>Z0q) (fun _ _ _ _ _=>Z0q) (fun _ _ _ _ _=>Z0q) (fun _ _ _ _=>Z0q) (fun _ _ _ _=>Z0q) Z0q r
abbrev RetT:=(List SV->Prop)->Prop
def Zhv:RetT:=fun K=>K []
noncomputable def Z36 (C:Cx)(fr:Fr)(O:Hps)(v:ResultVar)(_:List ResultVar)(r:RetT):RetT:=fun K=>match v with
 | .tmp t=>match lkp t fr with
   |some v=>r fun vs=>K (v::vs)
   |none=>STOP "result"
 | .cell a t=>match lkp a fr with
   |some p=>(ZaA C.T (Yp C O) t p).gv fun v=>r fun vs=>K (v::vs)
   |none=>STOP "result"
noncomputable def Z22 (C:Cx)(fr:Fr)(O:Hps)(l:List ResultVar):RetT:=List.rec (motive:=fun _=>RetT) Zhv (Z36 C fr O) l
def Z4b:List SV->SV
 | [v]=>v
 |vs=> .tup vs
structure FIN(M:Mx)(O:Hps)(nx:Nat)(r:SV)(Q:SV->Hps->Nat->Prop):Prop where
 out:∀η w v,HeapOK M η w O nx->Den η r v->∃r' O' nx' η',Q r' O' nx'/\M.η0<+:η'/\HeapOK M η' w O' nx'/\Den η' r' v
def Zci(M:Mx)(O:Hps)(nx:Nat)(Q:SV->Hps->Nat->Prop):List SV->Prop
 | [v]=>FIN M O nx v Q
 |vs=>FIN M O nx (.tup vs) Q
theorem Z9E{M:Mx}{O:Hps}{nx:Nat}{Q:SV->Hps->Nat->Prop}:∀vs,Zci M O nx Q vs=FIN M O nx (Z4b vs) Q
 | []=>rfl
 | [_]=>rfl
 |_::_::_=>rfl
def Z4K:List SV->Hps->(Hps->Prop)->Prop
 | [],O,K=>K O
 |c::l,O,K=>match c with
  | .ptr (.loc j) _ _ _=>match lkp j O with
    |some (.dfr [])=>Z2B j O fun O=>Z4K l O K
    |_=>STOP "put off"
  | .val v=>match l with
    | .ptr (.loc j) _ _ _::l'=>match lkp j O with
      |some (.dfr f)=>NEED (v=farV f) (Z2B j O fun O=>Z4K l' O K)
      |_=>STOP "put off"
    |_=>STOP "put off"
  |_=>STOP "put off"
def Z4c(fr:Fr)(O:Hps)(K:Hps->Prop):Prop:=match lkp DS fr with
 |some v=>match v with
  | .dfs l=>Z4K l O K
  |_=>K O
 |none=>K O
def endQ(M:Mx)(res:List ResultVar)(Q:SV->Hps->Nat->Prop):Post
 | .normal,fr,O,nx=>Z4c fr O fun O=>Z22 M.C fr O res fun vs=>Zci M O nx Q vs
 | .ret,fr,O,nx=>Z4c fr O fun O=>Z22 M.C fr O res fun vs=>Zci M O nx Q vs
 | .exit _,_,_,_=>STOP "exit"
section
variable {M:Mx}{η:Env}{w:World}{O:Hps}{nx:Nat}
theorem Res.gv_ok:∀{r:Res} {K:SV->Prop},r.gv K->∃v,(∀O nx,r.ok O nx v O nx)/\K v
 | .val v,K,h=>by simp only[Res.gv,Ze7,Yv]at h;exact⟨v,fun _ _=>⟨rfl,rfl,rfl⟩,h⟩
 | .need p k,K,h=>by
   simp only[Res.gv,ZfB]at h;obtain⟨v,h1,h2⟩:=Res.gv_ok h.k;exact⟨v,fun O nx=>⟨h.p,h1 O nx⟩,h2⟩
 | .get rs i f,K,h=>by
   simp only[Res.gv,Zhu,JS]at h;obtain⟨row,hr,h⟩:=h.out;obtain⟨v,h1,h2⟩:=Res.gv_ok h;exact⟨v,fun O nx=>⟨row,hr,h1 O nx⟩,h2⟩
 | .new _ _,_,h=>h.out.elim
 | .upd _ _ _,_,h=>h.out.elim
 | .repl _ _ _,_,h=>h.out.elim
 | .take _ _ _ _,_,h=>h.out.elim
 | .putk _ _ _ _,_,h=>h.out.elim
 | .find _ _ _,_,h=>h.out.elim
 | .findD _ _ _,_,h=>h.out.elim
 | .ite _ _ _,_,h=>h.out.elim
 | .fail,_,h=>h.out.elim
def Z4L(tmps:Array Value):ResultVar->Sem Value
 | .tmp t=>pure (tmps.getD t undef)
 | .cell c t=>do loadVar t (<-asAddr (tmps.getD c undef))
theorem ZaK(fn:Func)(tmps:Array Value):results fn tmps=(do let vs<-fn.results.mapM (Z4L tmps);pure (if h:vs.size=1 then vs[0]else .tuple vs)):=by
 have:(fun x:ResultVar=>match x with|ResultVar.tmp t=>(pure (tmps.getD t undef):Sem Value)|ResultVar.cell c t=>do loadVar t (<-asAddr (tmps.getD c undef)))=Z4L tmps:=by
  funext x;cases x<;>rfl
 rw[<-this]
 rfl
theorem ZaL{P:Program}{w:World}{v:Value}{a:Addr}(h:v= .pointer (some a)):(asAddr v).run P w= .ok a w:=by subst h;rfl
theorem Z37(hT:TabOK M.P M.C.T)(H:HeapOK M η w O nx){a:Act}{fr:Fr}(hf:FrOK η a fr):∀{res:List ResultVar} {K:List SV->Prop},Z22 M.C fr O res K->
 ∃svs vs,K svs/\DenL η svs vs/\(res.mapM (Z4L a.tmps)).run M.P w= .ok vs w
 | [],K,h=>⟨[],[],h,by simp[DenL],rfl⟩
 | .tmp t::r,K,h=>by
   replace h:Z36 M.C fr O (.tmp t) r (Z22 M.C fr O r) K:=h
   simp only[Z36]at h;split at h
   case h_2=>exact h.out.elim
   rename_i v hv;obtain⟨svs,vs,h1,h2,h3⟩:=Z37 hT H hf h;refine⟨_,a.tmps.getD t undef::vs,h1,?_,?_⟩
   ·simp only[DenL];exact⟨_,_,rfl,hf t v hv,h2⟩
   ·simp only[List.mapM_cons,Sem.run_bind,Z4L,Sem.run_pure,Result.andThen_ok,h3]
 | .cell c t::r,K,h=>by
   replace h:Z36 M.C fr O (.cell c t) r (Z22 M.C fr O r) K:=h
   simp only[Z36]at h;split at h
   case h_2=>exact h.out.elim
   rename_i p hp;obtain⟨v,hl,h⟩:=Res.gv_ok h;obtain⟨svs,vs,h1,h2,h3⟩:=Z37 hT H hf h;obtain⟨_,_,ad,u,h4,h5,h6⟩:=Z2O hT H (hf c p hp) (hl O nx);refine⟨_,u::vs,h1,?_,?_⟩
   ·simp only[DenL];exact⟨_,_,rfl,h6,h2⟩
   ·simp only[List.mapM_cons,Sem.run_bind,Z4L,ZaL h4,Result.andThen_ok,h5,h3,Sem.run_pure]
end
theorem Z2g{η:Env}:∀{n:Nat} {args:List SV} {vs:List Value} {t:Nat} {sv:SV},DenL η args vs->lkp t (UD n args)=some sv->∃v,n<=t/\vs[t-n]?=some v/\Den η sv v
 |n,[],vs,t,sv,_,h=>by simp[UD,lkp]at h
 |n,a::args,vs,t,sv,hd,h=>by
  simp only[DenL]at hd;obtain⟨u,us,rfl,h1,h2⟩:=hd;simp only[UD,Z6]at h;split at h
  ·rename_i e;subst e;injection h with h;subst h
   exact⟨u,Nat.le_refl _,by simp,h1⟩
  ·obtain⟨v,h3,h4,h5⟩:=Z2g h2 h;refine⟨v,by omega,?_,h5⟩;rw[show t-n=(t-(n+1))+1 by omega];simpa using h4
theorem HeapOK.drop{M:Mx}{η:Env}{w w':World}{O:Hps}{nx:Nat}(H:HeapOK M η w O nx){j:Nat}{h0:Hp}(hj:lkp j O=some h0){e:Ent}(he:η[j]?=some (some e))(hother:∀k, ¬feet η w (.loc j) h0 k->w'.heap[k]?=w.heap[k]?)(hsz:w'.heap.size=w.heap.size)
 (ho:w'.os=w.os) (ht:w'.tape=w.tape) (hp:w'.output=w.output) (hdr:w.drawn<=w'.drawn):HeapOK M η w' (delK j O) nx:=by
 have fi:feet η w (.loc j) h0 e.g:=feet.own he
 have back:∀{i h},lkp i (delK j O)=some h->i≠j/\lkp i O=some h:=fun{i h} hi=>by
  have hne:i≠j:=fun e=>by subst e;rw[Yw]at hi;cases hi
  exact⟨hne,by rw[<-Vn j O i hne];exact hi⟩
 have keep:∀{i h},lkp i (delK j O)=some h->∀k,feet η w (.loc i) h k->w'.heap[k]?=w.heap[k]?:=fun{i h} hi k f=>hother k fun hk=>H.own.2 i j h h0 k (back hi).2 hj (back hi).1 f hk;have bk:∀{i h},lkp i (delK j O)=some h->∀k,feet η w' (.loc i) h k->feet η w (.loc i) h k:=fun{i h} hi k f=>H.stands List.prefix_rfl (back hi).2 (keep hi) f
 refine⟨H.pre,H.len,⟨fun i h hi=>⟨(H.own.1 i h (back hi).2).1.keep (keep hi),fun k f=>(H.own.1 i h (back hi).2).2 k (bk hi k f)⟩,fun i i' h h' k hi hi' hne f f'=>H.own.2 i i' h h' k (back hi).2 (back hi').2 hne (bk hi k f) (bk hi' k f')⟩,
  ⟨ho.trans H.fr.os,ht.trans H.fr.tape,hp.trans H.fr.output,Nat.le_trans H.fr.drawn hdr,by rw[hsz];exact H.fr.size,fun k hk hF=>?_⟩,H.sok⟩
 rw[hother k ?_]
 ·exact H.fr.block k hk hF
 ·intro hke;rcases(H.own.1 j h0 hj).2 k hke with h|h
  ·exact hF h
  ·omega
theorem Zem{f f':List Nat}(h:farV f=farV f'):f=f':=by
 unfold farV at h;simp only[Value.tuple.injEq]at h;exact(List.map_inj_right (fun a b hab=>by simp only[Value.int.injEq,true_and]at hab;omega)).1 (congrArg Array.toList h)
theorem Z6S{F:Fence}{P:Program}{fn:Func}{tmps:Array Value}{R:Ending->World->Prop}{ds:List Deferred}:∀{f:List Nat} {w:World},(∀n∈f,w.heap[n]?=some (.deferred (some [])))->f.Nodup->
 (∀w',(∀k,k∉f->w'.heap[k]?=w.heap[k]?)->w'.heap.size=w.heap.size->w'.os=w.os->w'.tape=w.tape->w'.output=w.output->w'.drawn=w.drawn->LeavesInM F 0 P fn tmps R ds .returning w')->LeavesInM F 0 P fn tmps R (farD f++ds) .returning w
 | [],w,_,_,h=>h w (fun _ _=>rfl) rfl rfl rfl rfl rfl
 |n::f,w,hs,hn,h=>by
  have hn':=List.nodup_cons.1 hn;have h6:=hs n (List.mem_cons_self ..);refine⟨(fun h=>by cases h), .inl ⟨n,w.putObj n (.deferred none),rfl,run_takeDeferred h6,?_⟩⟩;refine Z6S (fun m hm=>?_) hn'.2 fun w' h1 h2 h3 h4 h5 h6=>h w' (fun k hk=>?_) (h2.trans World.putObj_size) h3 h4 h5 h6
  ·rw[World.putObj_heap_other (by rintro rfl;exact hn'.1 hm)];exact hs m (List.mem_cons_of_mem _ hm)
  ·rw[h1 k fun hm=>hk (List.mem_cons_of_mem _ hm)];exact World.putObj_heap_other (by rintro rfl;exact hk (List.mem_cons_self ..))
theorem Z38{M:Mx}{F:Fence}{P:Program}{fn:Func}{tmps:Array Value}{R:Ending->World->Prop}{η:Env}{nx:Nat}:∀(m:Nat) {l:List SV} {ds:List Deferred} {O:Hps} {w:World} {K:Hps->Prop},l.length<=m->DfL η l ds->HeapOK M η w O nx->Z4K l O K->
 (∀w' O',HeapOK M η w' O' nx->K O'->LeavesInM F 0 P fn tmps R [] .returning w')->LeavesInM F 0 P fn tmps R ds .returning w
 |_,[],ds,O,w,K,_,hd,H,h,hK=>by
  simp only[DfL]at hd;subst hd;exact hK w O H h
 |0,_::_,ds,O,w,K,hm,hd,H,h,hK=>by simp at hm
 |m+1,c::l,ds,O,w,K,hm,hd,H,h,hK=>by
  have last:∀{j:Nat} {f:List Nat} {e:Ent} {r:List Deferred} {l':List SV},l'.length<=m->lkp j O=some (.dfr f)->η[j]?=some (some e)->DfL η l' r->Z4K l' (delK j O) K->LeavesInM F 0 P fn tmps R (farD f++{target:= .collected e.g,args:= #[]}::r) .returning w:=by
   intro j f e r l' hm' hj h1 h3 h;have hs:=(H.own.1 j _ hj).1;simp only[HpSat]at hs;obtain⟨e',h4,h5,h6,h7,h8⟩:=hs;rw[show η.get (.loc j)=some (some e)from h1]at h4;injection h4 with h4;injection h4 with h4;subst h4;have h8:=List.nodup_cons.1 h8;refine Z6S h7 h8.2 fun w1 g1 g2 g3 g4 g5 g6=>?_;have h6':w1.heap[e.g]?=some (.deferred (some [])):=(g1 _ h8.1).trans h6;refine⟨(fun h=>by cases h), .inl ⟨e.g,w1.putObj e.g (.deferred none),rfl,run_takeDeferred h6',?_⟩⟩;refine Z38 m hm' h3 (H.drop hj h1 (fun k hk=>?_) (World.putObj_size.trans g2) g3 g4 g5 (by show w.drawn<=w1.drawn;omega)) h hK;rw[World.putObj_heap_other fun e'=>hk ⟨e,h1, .inl e'.symm⟩];exact g1 k fun hm=>hk ⟨e,h1, .inr hm⟩
  simp only[List.length_cons]at hm;unfold Z4K at h;split at h
  ·rename_i j _ _ _;split at h
   case h_2=>exact h.out.elim
   rename_i hj;rw[XV]at h;simp only[DfL]at hd;obtain⟨e,r,h1,rfl,h3⟩:=hd;exact last (f:=[]) (by omega) hj h1 h3 h
  ·rename_i v;split at h
   case h_2=>exact h.out.elim
   rename_i j _ _ _ l';split at h
   case h_2=>exact h.out.elim
   rename_i f hj;obtain⟨hv,h⟩:=h;rw[XV]at h;simp only[DfL]at hd;obtain⟨f',r',h1,rfl,e,r,h2,rfl,h3⟩:=hd;obtain rfl:=Zem (hv.symm.trans h1);exact last (by simp only[List.length_cons]at hm;omega) hj h2 h3 h
  ·exact h.out.elim
theorem Zcj{M:Mx}{F:Fence}{P:Program}{fn:Func}{tmps:Array Value}{R:Ending->World->Prop}{η:Env}{nx:Nat}{fr:Fr}{ds:List Deferred}{O:Hps}{w:World}{K:Hps->Prop}(hd:DfOK η ds (lkp DS fr))(H:HeapOK M η w O nx)(h:Z4c fr O K)
 (hK:∀w' O',HeapOK M η w' O' nx->K O'->LeavesInM F 0 P fn tmps R [] .returning w'):LeavesInM F 0 P fn tmps R ds .returning w:=by
 unfold Z4c at h;split at h
 ·rename_i v hv;rw[hv]at hd;split at h
  ·exact Z38 _ (Nat.le_refl _) hd H h hK
  ·rename_i hnd
   have:ds=[]:=by
    cases v<;>first|exact hd|exact(hnd _ rfl).elim
   subst this;exact hK w O H h
 ·rename_i hv;rw[hv]at hd;have hd:ds=[]:=hd;subst hd;exact hK w O H h
theorem Zck{M:Mx}(hT:TabOK M.P M.C.T){fn:Func}{res:List ResultVar}(hres:fn.results=res.toArray){K:SV->Hps->Nat->Prop}{η:Env}{fr:Fr}{O':Hps}{nx:Nat}{a:Act}{w':World}(H':HeapOK M η w' O' nx)(hf:FrOK η a fr)
 (hr:Z22 M.C fr O' res fun vs=>K (Z4b vs) O' nx):∃v r,(results fn a.tmps).run M.P w'= .ok v w'/\Den η r v/\K r O' nx:=by
 obtain⟨svs,rvs,h1,h2,h3⟩:=Z37 hT H' hf hr
 have hrun:(results fn a.tmps).run M.P w'= .ok (if h:rvs.length=1 then rvs[0]'(by omega)else .tuple ⟨rvs⟩) w':=by
  have hh:(res.toArray.mapM (Z4L a.tmps)).run M.P w'= .ok ⟨rvs⟩ w':=by
   rw[Array.mapM_eq_mapM_toList];simp only[Sem.run_map,h3,Result.andThen_ok]
  rw[ZaK,hres];simp only[Sem.run_bind,hh,Result.andThen_ok,Sem.run_pure]
  rfl
 have hden:Den η (Z4b svs) (if h:rvs.length=1 then rvs[0]'(by omega)else .tuple ⟨rvs⟩):=by
  have hl:=ZP h2
  match svs,h2,hl with
  | [],h2,hl=>
    simp only[DenL]at h2;subst h2;simp only[Z4b,Den,DenL];exact⟨[],by simp,rfl⟩
  | [s],h2,hl=>
    simp only[DenL]at h2;obtain⟨u,us,rfl,h4,rfl⟩:=h2;simpa[Z4b]using h4
  |s::s'::r,h2,hl=>
   simp only[List.length_cons]at hl;rw[dif_neg (by omega)];simp only[Z4b,Den];exact⟨rvs,rfl,h2⟩
 exact⟨_,_,hrun,hden,h1⟩
theorem Z39{M:Mx}(hT:TabOK M.P M.C.T){fn:Func}{res:List ResultVar}(hres:fn.results=res.toArray){K:SV->Hps->Nat->Prop}{η:Env}{fr:Fr}{O:Hps}{nx:Nat}{a:Act}{w:World}(hm:Models M η fr O nx a w)
 (h:Z4c fr O fun O=>Z22 M.C fr O res fun vs=>K (Z4b vs) O nx) {R:Ending->World->Prop} (hR:∀w' O' v r,HeapOK M η w' O' nx->Den η r v->K r O' nx->R (.returned v) w'):LeavesInM Fence.wide 0 M.P fn a.tmps R a.defers .returning w:=by
 refine Zcj hm.defers hm.heap h fun w' O' H' hr=>?_;obtain⟨v,r,h1,h2,h3⟩:=Zck hT hres H' hm.frame hr;exact⟨_,h1,hR w' O' _ _ H' h2 h3⟩
theorem Zcl{n:Nat}{args:List SV}{t:Nat}{v:SV}(h:lkp t (UD n args)=some v):n<=t/\t<n+args.length:=by
 induction args generalizing n with
 |nil=>simp[UD,lkp]at h
 |cons a l ih=>
  simp only[UD,Z6]at h;split at h
  ·rename_i e;subst e;simp
  ·have:=ih h;simp only[List.length_cons];omega
theorem Z5x{η:Env}{args:List SV}(h:args.length<=DS):DfOK η [] (lkp DS (UD 0 args)):=by
 cases hv:lkp DS (UD 0 args)with
 |none=>exact rfl
 |some v=>have:=Zcl hv;omega
structure DoesW(G:World->Prop)(P:Program)(T:Tab)(f:FuncId)(k:Nat)(args:List SV)(O S:Hps)(Q:SV->Hps->Nat->Prop):Prop where
 out:∀(M:Mx) (vs:List Value),M.P=P->M.C.T=T->M.F=Yk M.η0 M.w0 O->M.C.S=shB S->HeapOK M M.η0 M.w0 O k->DenL M.η0 args vs->G M.w0->
  Invokes M.P f ⟨vs⟩ M.w0 fun v w'=> ∃r O' nx' η',Q r O' nx'/\M.η0<+:η'/\HeapOK M η' w' O' nx'/\Den η' r v
theorem Does.enterW{G:World->Prop}{P:Program}{T:Tab}{f g:FuncId}{k:Nat}{args:List SV}{O S:Hps}{Q:SV->Hps->Nat->Prop}{fn:Func}{c:Code}(hT:TabOK P T)(hcall:∀args w,(callFunc f args).run P w= .ok (.enter g args) w)
 (hf:P.funcs[g]?=some fn) (hb:fn.body=some c) (N:Nat) (hN:fn.ntmps=N) (hlen:Nat.ble args.length N=true) (res:List ResultVar) (hres:fn.results=res.toArray)
 (h:∀w0 F η0,η0.length=k->G w0->F=Yk η0 w0 O->run ⟨P,⟨T,N,shB S,none⟩,w0,F,η0,none⟩ c (UD 0 args) O k (endQ ⟨P,⟨T,N,shB S,none⟩,w0,F,η0,none⟩ res Q)) (hND:Nat.ble N DS=true:=by rfl):DoesW G P T f k args O S Q:=by
 refine⟨fun M vs hP hT' hF hS H hd hG=> .inl ⟨g,by rw[hP];exact hcall _ _,?_⟩⟩;obtain⟨P',⟨T',N',S',ro'⟩,w0,F,η0,px'⟩:=M;simp only at hP hT' hF hS H hd hG⊢;subst hP hT' hS;have hk:η0.length=k:=H.len;have H':HeapOK ⟨P',⟨T',N,shB S,none⟩,w0,F,η0,none⟩ η0 w0 O k:=⟨H.pre,H.len,H.own,H.fr,H.sok⟩;have hl:=ZP hd;refine callsIn_wide (n:=0)|>.1 (callsIn_of_wp_marks hf hb trivial ?_)
 have hm:Models ⟨P',⟨T',N,shB S,none⟩,w0,F,η0,none⟩ η0 (UD 0 args) O k {tmps:=⟨vs⟩++Array.replicate (fn.ntmps-(Array.mk vs).size) undef,defers:=[]} w0:=by
  refine⟨H',?_,Nat.le_of_ble_eq_true hND,Z5x (Nat.le_trans (Nat.le_of_ble_eq_true hlen) (Nat.le_of_ble_eq_true hND)),(fun l j h=>by cases h),?_⟩
  ·have:=Nat.le_of_ble_eq_true hlen;simp only[Array.size_append,Array.size_replicate,hN,List.size_toArray];show vs.length+(N-vs.length)=N
   omega
  ·intro t sv ht;obtain⟨v,_,h1,h2⟩:=Z2g hd ht;have hlt:=(List.getElem?_eq_some_iff.1 h1).1;simp only[Nat.sub_zero]at h1 hlt;rw[Array.getD_eq_getD_getElem?,Array.getElem?_append_left (by simpa using hlt)];have:(Array.mk vs)[t]?=some v:=by simpa using h1
   rw[this];exact h2
 refine Code.wpIn_mono ?_ (Y2 hT c (h w0 F η0 hk hG hF) η0 _ w0 hm)
 have fin:∀{η1:Env} {fr1:Fr} {O1:Hps} {nx1:Nat} {a:Act} {w1:World},Models ⟨P',⟨T',N,shB S,none⟩,w0,F,η0,none⟩ η1 fr1 O1 nx1 a w1->(Z4c fr1 O1 fun O1=>Z22 ⟨T',N,shB S,none⟩ fr1 O1 res fun vs=>Zci ⟨P',⟨T',N,shB S,none⟩,w0,F,η0,none⟩ O1 nx1 Q vs)->
  LeavesInM Fence.wide 0 P' fn a.tmps (fun e w'=> ∃v,e= .returned v/\∃r O' nx' η',Q r O' nx'/\η0<+:η'/\HeapOK ⟨P',⟨T',N',shB S,ro'⟩,w0,F,η0,px'⟩ η' w' O' nx'/\Den η' r v) a.defers .returning w1:=by
  intro η1 fr1 O1 nx1 a w1 hm1 hr;refine Z39 (M:=⟨P',⟨T',N,shB S,none⟩,w0,F,η0,none⟩) (K:=fun r O nx=>FIN ⟨P',⟨T',N,shB S,none⟩,w0,F,η0,none⟩ O nx r Q) hT hres hm1 (by simpa only[Z9E]using hr) fun w2 O2 v r H2 hd2 hk=>?_;obtain⟨r',O',nx',η',h5,h6,h7,h8⟩:=hk.out η1 w2 v H2 hd2;exact⟨v,rfl,r',O',nx',η',h5,h6,⟨h7.pre,h7.len,h7.own,h7.fr,h7.sok⟩,h8⟩
 intro e a w hq;cases e with
 |normal=>obtain⟨η1,fr1,O1,nx1,hm1,hq⟩:=hq;exact fin hm1 hq
 |ret=>obtain⟨η1,fr1,O1,nx1,hm1,hq⟩:=hq;exact fin hm1 hq
 |exit id=>obtain⟨η1,fr1,O1,nx1,hm1,hq⟩:=hq;exact hq.out.elim
 |goto l=>exact hq.elim
 |panic ch=>obtain⟨_,_,hn,_⟩:=hq;cases hn
 |outgrown=>exact hq.elim
theorem Does.enter{P:Program}{T:Tab}{f g:FuncId}{k:Nat}{args:List SV}{O S:Hps}{Q:SV->Hps->Nat->Prop}{fn:Func}{c:Code}(hT:TabOK P T)(hcall:∀args w,(callFunc f args).run P w= .ok (.enter g args) w)
 (hf:P.funcs[g]?=some fn) (hb:fn.body=some c) (N:Nat) (hN:fn.ntmps=N) (hlen:Nat.ble args.length N=true) (res:List ResultVar) (hres:fn.results=res.toArray)
 (h:∀w0 F η0,η0.length=k->run ⟨P,⟨T,N,shB S,none⟩,w0,F,η0,none⟩ c (UD 0 args) O k (endQ ⟨P,⟨T,N,shB S,none⟩,w0,F,η0,none⟩ res Q)) (hND:Nat.ble N DS=true:=by rfl):Does P T f k args O S Q:=
 ⟨fun M vs a1 a2 a3 a4 a5 a6=>(Does.enterW (G:=fun _=>True) hT hcall hf hb N hN hlen res hres (fun w0 F η0 hk _ _=>h w0 F η0 hk) hND).out M vs a1 a2 a3 a4 a5 a6 trivial⟩
theorem IF.tt{J:Type}{A B:J->Prop}{j:J}(h:A j):IF true A B j:=⟨fun _=>h,fun e=>by cases e⟩
theorem IF.ff{J:Type}{A B:J->Prop}{j:J}(h:B j):IF false A B j:=⟨fun e=>(by cases e),fun _=>h⟩
theorem IF.yes{J:Type}{b:Bool}{A B:J->Prop}{j:J}(e:b=true)(h:A j):IF b A B j:=⟨fun _=>h,fun e'=>by rw[e]at e';cases e'⟩
theorem IF.no{J:Type}{b:Bool}{A B:J->Prop}{j:J}(e:b=false)(h:B j):IF b A B j:=⟨fun e'=>(by rw[e]at e';cases e'),fun _=>h⟩
theorem GET.at{rs:List (List SV)}{i:Nat}{K:List SV->Prop}{row:List SV}(h:rs[i]?=some row)(k:K row):GET rs i K:=⟨row,h,k⟩
theorem GET.map{α:Type}{f:α->List SV}{xs:List α}{i:Nat}{K:List SV->Prop}(h:i<xs.length)(k:K (f xs[i])):GET (xs.map f) i K:=⟨f xs[i],by simp[List.getElem?_eq_getElem h],k⟩
theorem GETG.map{α:Type}[Inhabited α]{f:α->List SV}{xs:List α}{i:Nat}{g:Prop}{K:List SV->Prop}(h:g->i<xs.length)(k:K (f (xs.getD i default))):GETG g (xs.map f) i K:=
 ⟨f (xs.getD i default),fun hg=>by have:=h hg;simp[List.getElem?_eq_getElem this,List.getD],k⟩
def Zi(L:List Nat)(nx:Nat)(j:Nat):Nat:=if j<L.length then L.getD j 0 else nx+(j-L.length)
def ZV(ks:List Nat):Hps->Hps
 | []=>[]
 |(i,h)::r=>match ks.any (Nat.beq i)with|true=>ZV ks r|false=>(i,h)::ZV ks r
def renO(σ:Nat->Nat):Hps->Hps
 | []=>[]
 |(i,h)::r=>(σ i,renH σ h)::renO σ r
def Za:Hps->List Nat
 | []=>[]
 |(i,_)::r=>i::Za r
theorem Je{O:Hps}{i:Nat}{h:Hp}(hi:lkp i O=some h):i∈Za O:=by
 induction O with
 |nil=>simp[lkp]at hi
 |cons p O ih=>
  obtain⟨j,g⟩:=p;rw[Z6]at hi;split at hi
  ·rename_i e;subst e;exact List.mem_cons_self ..
  ·exact List.mem_cons_of_mem _ (ih hi)
theorem Z05{ks:List Nat}:∀{O:Hps} {i:Nat} {h:Hp},lkp i (ZV ks O)=some h->i∉ks/\lkp i O=some h
 | [],i,h,hi=>by simp[ZV,lkp]at hi
 |(j,g)::O,i,h,hi=>by
  unfold ZV at hi
  have hany:ks.any (Nat.beq j)=true<->j∈ks:=by
   rw[List.any_eq_true];exact⟨fun⟨x,hx,hb⟩=>by rw[Zn hb];exact hx,fun h=>⟨j,h,Xl j⟩⟩
  split at hi
  ·rename_i hk;obtain⟨h1,h2⟩:=Z05 hi;refine⟨h1,?_⟩;rw[Z6,if_neg ?_]
   ·exact h2
   ·intro e;subst e;exact h1 (hany.1 hk)
  ·rename_i hk;rw[Z6]at hi;split at hi
   ·rename_i e;subst e;injection hi with hi;subst hi;refine⟨fun h=>?_,by rw[Z6,if_pos rfl]⟩;rw[hany.2 h]at hk;cases hk
   ·rename_i e;obtain⟨h1,h2⟩:=Z05 hi;exact⟨h1,by rw[Z6,if_neg e];exact h2⟩
theorem Z9F{σ:Nat->Nat}:∀{O:Hps} {i:Nat} {h:Hp},lkp i (renO σ O)=some h->∃j g,lkp j O=some g/\σ j=i/\h=renH σ g
 | [],i,h,hi=>by simp[renO,lkp]at hi
 |(j,g)::O,i,h,hi=>by
  simp only[renO]at hi;rw[Z6]at hi;split at hi
  ·rename_i e;injection hi with hi;exact⟨j,g,by rw[Z6,if_pos rfl],e.symm,hi.symm⟩
  ·rename_i e;obtain⟨j1,g1,h1,h2,h3⟩:=Z9F hi;have hne:j1≠j:=by intro e';subst e';exact e h2.symm
   exact⟨j1,g1,by rw[Z6,if_neg hne];exact h1,h2,h3⟩
theorem Jf{α:Type}{xs ys:List (Nat×α)}{i:Nat}{v:α}(h:lkp i (xs++ys)=some v):lkp i xs=some v\/(lkp i xs=none/\lkp i ys=some v):=by
 induction xs with
 |nil=>exact .inr ⟨rfl,h⟩
 |cons p xs ih=>
  obtain⟨j,u⟩:=p;rw[List.cons_append,Z6]at h;rw[Z6];split at h
  ·rename_i e;rw[if_pos e];exact .inl h
  ·rename_i e;rw[if_neg e];exact ih h
theorem Invokes.mono{P:Program}{f:FuncId}{args:Array Value}{w:World}{R R':Value->World->Prop}(h:Invokes P f args w R)(hr:∀v w',R v w'->R' v w'):Invokes P f args w R':=by
 rcases h with⟨g,h1,h2⟩|⟨v,w',h1,h2⟩
 ·exact .inl ⟨g,h1,h2.mono fun e w' ⟨v,h3,h4⟩=>⟨v,h3,hr v w' h4⟩⟩
 ·exact .inr ⟨v,w',h1,hr v w' h2⟩
theorem Zen{S:Hps}{b:Blk}{h:Hp}(hb:lkpB b (shB S)=some h):∃j,b= .loc j/\(j,h)∈S:=by
 induction S with
 |nil=>simp[shB,lkpB]at hb
 |cons p S ih=>
  obtain⟨j,g⟩:=p;simp only[shB,List.map_cons,lkpB]at hb;split at hb
  ·rename_i e;injection hb with hb;subst hb;exact⟨j,blkEq_iff.1 e,List.mem_cons_self ..⟩
  ·obtain⟨j',h1,h2⟩:=ih hb;exact⟨j',h1,List.mem_cons_of_mem _ h2⟩
theorem Z14{M:Mx}{args:List SV}{O:Hps}{nx k:Nat}{argsc:List SV}{Oc Sc:Hps}(L:List Nat)
 (hL:L.length=k) (hLn:∀i∈L,i<nx) (ha:args=renL (Zi L nx) argsc) (hb:ZM k argsc=true)
 (hO:∀p∈Oc,p.1<k/\lkp (Zi L nx p.1) O=some (renH (Zi L nx) p.2)/\Zg k p.2=true)
 (hOn:∀j∈Za Oc,∀j'∈Za Oc,Zi L nx j=Zi L nx j'->j=j')
 (hS:∀p∈Sc,p.1<k/\Yp M.C O (.loc (Zi L nx p.1))=some (renH (Zi L nx) p.2)/\Zg k p.2=true/\Zi L nx p.1∉ (Za Oc).map (Zi L nx)) {η:Env} {w:World} {vs:List Value} (H:HeapOK M η w O nx) (hd:DenL η args vs):
 ∃Mc:Mx,Mc.P=M.P/\Mc.C.T=M.C.T/\Mc.F=Yk Mc.η0 Mc.w0 Oc/\Mc.C.S=shB Sc/\Mc.w0=w/\HeapOK Mc Mc.η0 Mc.w0 Oc k/\DenL Mc.η0 argsc vs/\
  ∀r O' nx' η' v w',Mc.η0<+:η'->HeapOK Mc η' w' O' nx'->Den η' r v->∃η2,η<+:η2/\HeapOK M η2 w' (renO (Zi L nx) O'++ZV ((Za Oc).map (Zi L nx)) O) (nx+(nx'-k))/\Den η2 (ren (Zi L nx) r) v:=by
 generalize hσ:Zi L nx=σ at*
 have hσlt:∀j,j<k->∃y,L[j]?=some (σ j)/\σ j<nx/\η[σ j]?=some y:=by
  intro j hj;have hj':j<L.length:=by omega
  have e:σ j=L[j]:=by rw[<-hσ];simp[Zi,hj',List.getD]
  have hlt:σ j<nx:=by rw[e];exact hLn _ (List.getElem_mem hj')
  refine⟨η[σ j]'(by rw[H.len];exact hlt),by rw[e];exact List.getElem?_eq_getElem hj',hlt,List.getElem?_eq_getElem _⟩
 have hσge:∀j,k<=j->σ j=nx+(j-k):=by
  intro j hj;rw[<-hσ];simp only[Zi,hL];rw[if_neg (by omega)]
 obtain⟨ηc,hηc⟩:∃ηc:Env,ηc=L.map (fun i=>(η[i]?).getD none):=⟨_,rfl⟩;have hclen:ηc.length=k:=by rw[hηc];simp[hL]
 have hcget:∀j,j<k->ηc[j]?=η[σ j]?:=by
  intro j hj;obtain⟨y,h1,h2,h3⟩:=hσlt j hj;rw[hηc,List.getElem?_map,h1];simp[h3]
 have hbwd:Bwd η ηc σ k:=fun j x hj hx=>by rw[hcget j hj];exact hx
 have hdc:DenL ηc argsc vs:=DenL.unren hbwd hb (by rw[<-ha];exact hd);have hOl:∀j h,lkp j Oc=some h->j<k/\lkp (σ j) O=some (renH σ h)/\Zg k h=true:=fun j h hj=>hO (j,h) (UO hj);have hto:∀{j:Nat},j<k->∀{h:Hp} {w:World} {n:Nat},feet ηc w (.loc j) h n->feet η w (.loc (σ j)) (renH σ h) n:=fun{j} hj {h w n} f=>f.ren fun x hx=>by rw[<-hcget j hj];exact hx
 have hF:∀n,Yk ηc w Oc n->∃j h,lkp j Oc=some h/\feet η w (.loc (σ j)) (renH σ h) n/\(M.F n\/M.w0.heap.size<=n):=by
  rintro n ⟨j,h,h1,f⟩;obtain⟨p1,p2,_⟩:=hOl j h h1;exact⟨j,h,h1,hto p1 f,(H.own.1 _ _ p2).2 n (hto p1 f)⟩
 have Hc:HeapOK {P:=M.P,C:={M.C with S:=shB Sc},w0:=w,F:=Yk ηc w Oc,η0:=ηc} ηc w Oc k:=by
  refine⟨List.prefix_rfl,hclen,⟨?_,?_⟩,FrW.refl _ _,?_⟩
  ·intro j h hj;obtain⟨p1,p2,p3⟩:=hOl j h hj;exact⟨(H.own.1 _ _ p2).1.unren hbwd p1 p3,fun n f=> .inl ⟨j,h,hj,f⟩⟩
  ·intro j j' h h' n hj hj' hne f f';obtain⟨p1,p2,_⟩:=hOl j h hj;obtain⟨q1,q2,_⟩:=hOl j' h' hj';exact H.own.2 _ _ _ _ n p2 q2 (fun hh=>hne (hOn j (Je hj) j' (Je hj') hh)) (hto p1 f) (hto q1 f')
  ·intro b h hbl;cases b with
   |glob g=>
    have hp:JW h=true:=List.all_eq_true.1 M.C.T.gplain (g,h) (UO hbl);obtain⟨s1,s2⟩:=H.sok (.glob g) h hbl;refine⟨(H.shared (b:= .glob g) hbl).plain hp,fun n f=>?_⟩;obtain⟨t1,t2⟩:=s2 g ⟨⟨g,0,0⟩,rfl, .inl rfl⟩;have hw:w.heap[g]?=M.w0.heap[g]?:=H.fr.block g t1 t2
    have f0:feet M.η0 M.w0 (.glob g) h n:=by
     obtain⟨e,h1,h2⟩:=f;cases h1
     exact⟨⟨g,0,0⟩,rfl,h2.imp id fun h=>h.keep hw⟩
    obtain⟨t1,t2⟩:=s2 n f0;refine⟨Nat.lt_of_lt_of_le t1 H.fr.size,fun hbb=>?_⟩;obtain⟨_,_,_,_,q4⟩:=hF _ hbb;rcases q4 with q4|q4
    ·exact t2 q4
    ·omega
   |loc j0=>
   obtain⟨j,hj0,hm⟩:=Zen hbl;injection hj0 with hj0;subst j0;obtain⟨p1,p2,p3,p4⟩:=hS (j,h) hm;simp only at p1 p2 p3 p4;refine⟨(H.look p2).unren hbwd p1 p3,fun n f=>?_⟩;have f1:=hto p1 f;refine⟨(H.look p2).feet_lt f1,fun hbb=>?_⟩;obtain⟨j',h',q1,fq,q4⟩:=hF _ hbb;obtain⟨r1,r2,_⟩:=hOl j' h' q1;simp only[Yp]at p2;cases ho:lkp (σ j) O with
   |some g=>
    have hne:σ j'≠σ j:=fun hh=>p4 (by rw[<-hh];exact List.mem_map_of_mem (Je q1));rw[ho]at p2;injection p2 with p2;subst p2;exact H.own.2 _ _ _ _ n r2 ho hne fq f1
   |none=>
    rw[ho]at p2;obtain⟨s1,s2⟩:=H.sok (.loc (σ j)) _ p2;obtain⟨x',hx',_⟩:=s1.lt;have f2:feet M.η0 M.w0 (.loc (σ j)) (renH σ h) n:=(f1.less H.pre hx').keep fun e he=>H.fr.block e.g (s2 e.g (feet.own he)).1 (s2 e.g (feet.own he)).2;obtain⟨t1,t2⟩:=s2 n f2;rcases q4 with q4|q4
    ·exact t2 q4
    ·omega
 refine⟨{P:=M.P,C:={M.C with S:=shB Sc},w0:=w,F:=Yk ηc w Oc,η0:=ηc},rfl,rfl,rfl,rfl,rfl,Hc,hdc,?_⟩;intro r O' nx' η' v w' hpre H' hdr;have hk':k<=nx':=by rw[<-H'.len,<-hclen];exact hpre.length_le
 have hfwd:Fwd η' (η++η'.drop k) σ:=by
  intro i x hx;by_cases hi:i<k
  ·obtain⟨y,h1,h2,h3⟩:=hσlt i hi;rw[List.getElem?_append_left (by rw[H.len];exact h2)]
   have:η'[i]?=ηc[i]?:=by
    obtain⟨t,rfl⟩:=hpre;rw[List.getElem?_append_left (by rw[hclen];exact hi)]
   rw[<-hcget i hi,<-this];exact hx
  ·rw[hσge i (by omega),List.getElem?_append_right (by rw[H.len];omega),H.len,List.getElem?_drop];rw[show k+(nx+(i-k)-nx)=i by omega];exact hx
 have hpre':η<+:η++η'.drop k:=List.prefix_append _ _;have hfr:FrW w w' (Yk ηc w Oc):=H'.fr;refine⟨η++η'.drop k,hpre',?_,hdr.ren hfwd⟩
 have hin:∀{i h},lkp i (renO σ O')=some h->∃j g,lkp j O'=some g/\σ j=i/\h=renH σ g/\HpSat (η++η'.drop k) w' true (.loc i) h/\∀n,feet (η++η'.drop k) w' (.loc i) h n->feet η' w' (.loc j) g n/\(Yk ηc w Oc n\/w.heap.size<=n):=by
  intro i h hi;obtain⟨j,g,h1,h2,h3⟩:=Z9F hi;obtain⟨p1,p2⟩:=H'.own.1 j g h1;obtain⟨x,hx,_⟩:=p1.lt;have hx':(η++η'.drop k)[σ j]?=some x:=hfwd j x hx;refine⟨j,g,h1,h2,h3,?_,?_⟩
  ·rw[h3,<-h2];exact p1.ren hfwd
  ·intro n f;rw[h3,<-h2]at f;have f':feet η' w' (.loc j) g n:=f.unren fun y hy=>by rw[hx']at hy;injection hy with hy;rw[<-hy];exact hx
   exact⟨f',p2 n f'⟩
 have hout:∀{i h},lkp i (ZV ((Za Oc).map σ) O)=some h->lkp i O=some h/\∀n,feet η w (.loc i) h n->n<w.heap.size/\¬Yk ηc w Oc n:=by
  intro i h hi;obtain⟨h1,h2⟩:=Z05 hi;refine⟨h2,fun n f=>⟨(H.own.1 i h h2).1.feet_lt f,fun hbb=>?_⟩⟩;obtain⟨j',h',q1,fq,q4⟩:=hF _ hbb;obtain⟨r1,r2,_⟩:=hOl j' h' q1;have hne:σ j'≠i:=fun hh=>h1 (by rw[<-hh];exact List.mem_map_of_mem (Je q1));exact H.own.2 _ _ _ _ n r2 h2 hne fq f
 have hkeep:∀{i h},lkp i (ZV ((Za Oc).map σ) O)=some h->∀n,feet η w (.loc i) h n->w'.heap[n]?=w.heap[n]?:=fun hi n f=>hfr.block n ((hout hi).2 n f).1 ((hout hi).2 n f).2;have hback:∀{i h},lkp i (ZV ((Za Oc).map σ) O)=some h->∀n,feet (η++η'.drop k) w' (.loc i) h n->feet η w (.loc i) h n:=fun hi n f=>H.stands hpre' (hout hi).1 (hkeep hi) f;refine⟨H.pre.trans hpre',?_,⟨?_,?_⟩,H.fr.trans hfr (fun n hn=>let⟨_,_,_,_,h⟩:=hF n hn;h),H.sok⟩
 ·rw[List.length_append,List.length_drop,H.len,H'.len]
 ·intro i h hi;rcases Jf hi with hi|⟨_,hi⟩
  ·obtain⟨j,g,h1,h2,h3,h4,h5⟩:=hin hi;refine⟨h4,fun n f=>?_⟩;rcases(h5 n f).2 with hb'|hb'
   ·obtain⟨_,_,_,_,hh⟩:=hF _ hb';exact hh
   ·exact .inr (Nat.le_trans H.fr.size hb')
  ·have h3:=H.own.1 i h (hout hi).1;exact⟨(h3.1.keep (hkeep hi)).mono hpre',fun n f=>h3.2 n (hback hi n f)⟩
 ·intro i i' h h' n hi hi' hne f f';rcases Jf hi with hi|⟨_,hi⟩<;>rcases Jf hi' with hi'|⟨_,hi'⟩
  ·obtain⟨j,g,h1,h2,h3,h4,h5⟩:=hin hi;obtain⟨j',g',h1',h2',h3',h4',h5'⟩:=hin hi';exact H'.own.2 j j' g g' n h1 h1' (fun hj=>hne (by rw[<-h2,<-h2',hj])) (h5 n f).1 (h5' n f').1
  ·obtain⟨j,g,h1,h2,h3,h4,h5⟩:=hin hi;obtain⟨h7,h8⟩:=(hout hi').2 n (hback hi' n f');rcases(h5 n f).2 with hb'|hb'
   ·exact h8 hb'
   ·omega
  ·obtain⟨j,g,h1,h2,h3,h4,h5⟩:=hin hi';obtain⟨h7,h8⟩:=(hout hi).2 n (hback hi n f);rcases(h5 n f').2 with hb'|hb'
   ·exact h8 hb'
   ·omega
  ·exact H.own.2 i i' h h' n (hout hi).1 (hout hi').1 hne (hback hi n f) (hback hi' n f')
theorem CALL.of{M:Mx}{f:FuncId}{args:List SV}{O:Hps}{nx:Nat}{K:SV->Hps->Nat->Prop}{k:Nat}{argsc:List SV}{Oc Sc:Hps}{Q:SV->Hps->Nat->Prop}(L:List Nat)(sp:Does M.P M.C.T f k argsc Oc Sc Q)
 (hL:L.length=k) (hLn:∀i∈L,i<nx) (ha:args=renL (Zi L nx) argsc) (hb:ZM k argsc=true)
 (hO:∀p∈Oc,p.1<k/\lkp (Zi L nx p.1) O=some (renH (Zi L nx) p.2)/\Zg k p.2=true)
 (hOn:∀j∈Za Oc,∀j'∈Za Oc,Zi L nx j=Zi L nx j'->j=j')
 (hS:∀p∈Sc,p.1<k/\Yp M.C O (.loc (Zi L nx p.1))=some (renH (Zi L nx) p.2)/\Zg k p.2=true/\Zi L nx p.1∉ (Za Oc).map (Zi L nx))
 (hK:∀r O' nx',Q r O' nx'->K (ren (Zi L nx) r) (renO (Zi L nx) O'++ZV ((Za Oc).map (Zi L nx)) O) (nx+(nx'-k))):CALL M f args O nx K:=by
 refine⟨fun η w vs H hd=>?_⟩;obtain⟨Mc,h1,h2,h3,h4,h5,h6,h7,h8⟩:=Z14 L hL hLn ha hb hO hOn hS H hd;refine(h1▸h5▸(sp.out Mc vs h1 h2 h3 h4 h6 h7)).mono ?_;rintro v w' ⟨r,O',nx',η',hq,hpre,H',hdr⟩;obtain⟨η2,k1,k2,k3⟩:=h8 r O' nx' η' v w' hpre H' hdr;exact⟨_,_,_,η2,k1,k2,k3,hK r O' nx' hq⟩
structure DoesE(P:Program)(T:Tab)(f:FuncId)(k:Nat)(args:List SV)(O S:Hps)(Q X:SV->Hps->Nat->Prop):Prop where
 out:∀(M:Mx) (vs:List Value),M.P=P->M.C.T=T->M.F=Yk M.η0 M.w0 O->M.C.S=shB S->HeapOK M M.η0 M.w0 O k->DenL M.η0 args vs->
  InvokesE M.P f ⟨vs⟩ M.w0 (fun v w'=> ∃r O' nx' η',Q r O' nx'/\M.η0<+:η'/\HeapOK M η' w' O' nx'/\Den η' r v) fun v w'=> ∃r O' nx' η',X r O' nx'/\M.η0<+:η'/\HeapOK M η' w' O' nx'/\Den η' r v
theorem InvokesE.mono{P:Program}{f:FuncId}{args:Array Value}{w:World}{R R' X X':Value->World->Prop}(h:InvokesE P f args w R X)(hr:∀v w',R v w'->R' v w')(hx:∀v w',X v w'->X' v w'):InvokesE P f args w R' X':=by
 rcases h with⟨g,h1,h2⟩|⟨v,w',h1,h2⟩
 ·exact .inl ⟨g,h1,h2.mono fun e w' h=>h.elim (fun⟨v,h3,h4⟩=> .inl ⟨v,h3,hr v w' h4⟩) fun⟨v,h3,h4⟩=> .inr ⟨v,h3,hx v w' h4⟩⟩
 ·exact .inr ⟨v,w',h1,hr v w' h2⟩
abbrev Mx.pan(M:Mx)(X:SV->Hps->Nat->Prop):Mx:={M with px:=some ([],fun v O nx=>FIN M O nx v X)}
theorem DoesE.enter{P:Program}{T:Tab}{f g:FuncId}{k:Nat}{args:List SV}{O S:Hps}{Q X:SV->Hps->Nat->Prop}{fn:Func}{c:Code}(hT:TabOK P T)(hcall:∀args w,(callFunc f args).run P w= .ok (.enter g args) w)
 (hf:P.funcs[g]?=some fn) (hb:fn.body=some c) (N:Nat) (hN:fn.ntmps=N) (hlen:Nat.ble args.length N=true) (res:List ResultVar) (hres:fn.results=res.toArray)
 (h:∀w0 F η0,η0.length=k->run ⟨P,⟨T,N,shB S,none⟩,w0,F,η0,some ([],fun v O nx=>FIN ⟨P,⟨T,N,shB S,none⟩,w0,F,η0,none⟩ O nx v X)⟩ c (UD 0 args) O k (endQ ⟨P,⟨T,N,shB S,none⟩,w0,F,η0,none⟩ res Q)) (hND:Nat.ble N DS=true:=by rfl):DoesE P T f k args O S Q X:=by
 refine⟨fun M vs hP hT' hF hS H hd=> .inl ⟨g,by rw[hP];exact hcall _ _,?_⟩⟩;obtain⟨P',⟨T',N',S',ro'⟩,w0,F,η0,px'⟩:=M;simp only at hP hT' hF hS H hd⊢;subst hP hT' hS;have hk:η0.length=k:=H.len;obtain⟨px,hpx⟩:∃px,px=some (([]:Fr),fun(v:SV) (O:Hps) (nx:Nat)=>FIN ⟨P',⟨T',N,shB S,none⟩,w0,F,η0,none⟩ O nx v X):=⟨_,rfl⟩;have H':HeapOK ⟨P',⟨T',N,shB S,none⟩,w0,F,η0,px⟩ η0 w0 O k:=⟨H.pre,H.len,H.own,H.fr,H.sok⟩;have hl:=ZP hd;refine callsIn_wide (n:=0)|>.1 (callsIn_of_wp_marks hf hb trivial ?_)
 have hm:Models ⟨P',⟨T',N,shB S,none⟩,w0,F,η0,px⟩ η0 (UD 0 args) O k {tmps:=⟨vs⟩++Array.replicate (fn.ntmps-(Array.mk vs).size) undef,defers:=[]} w0:=by
  refine⟨H',?_,Nat.le_of_ble_eq_true hND,Z5x (Nat.le_trans (Nat.le_of_ble_eq_true hlen) (Nat.le_of_ble_eq_true hND)),(fun l j h=>by cases h),?_⟩
  ·have:=Nat.le_of_ble_eq_true hlen;simp only[Array.size_append,Array.size_replicate,hN,List.size_toArray];show vs.length+(N-vs.length)=N
   omega
  ·intro t sv ht;obtain⟨v,_,h1,h2⟩:=Z2g hd ht;have hlt:=(List.getElem?_eq_some_iff.1 h1).1;simp only[Nat.sub_zero]at h1 hlt;rw[Array.getD_eq_getD_getElem?,Array.getElem?_append_left (by simpa using hlt)];have:(Array.mk vs)[t]?=some v:=by simpa using h1
   rw[this];exact h2
 have hrun:=h w0 F η0 hk;rw[<-hpx]at hrun;refine Code.wpIn_mono ?_ (Y2 hT c hrun η0 _ w0 hm)
 have fin:∀{η1:Env} {fr1:Fr} {O1:Hps} {nx1:Nat} {a:Act} {w1:World},Models ⟨P',⟨T',N,shB S,none⟩,w0,F,η0,px⟩ η1 fr1 O1 nx1 a w1->(Z4c fr1 O1 fun O1=>Z22 ⟨T',N,shB S,none⟩ fr1 O1 res fun vs=>Zci ⟨P',⟨T',N,shB S,none⟩,w0,F,η0,none⟩ O1 nx1 Q vs)->
  LeavesInM Fence.wide 0 P' fn a.tmps (fun e w'=>(∃v,e= .returned v/\∃r O' nx' η',Q r O' nx'/\η0<+:η'/\HeapOK ⟨P',⟨T',N',shB S,ro'⟩,w0,F,η0,px'⟩ η' w' O' nx'/\Den η' r v)\/∃v,e= .panicked [{v,recovered:=false}]/\∃r O' nx' η',X r O' nx'/\η0<+:η'/\HeapOK ⟨P',⟨T',N',shB S,ro'⟩,w0,F,η0,px'⟩ η' w' O' nx'/\Den η' r v) a.defers .returning w1:=by
  intro η1 fr1 O1 nx1 a w1 hm1 hr;refine Z39 (M:=⟨P',⟨T',N,shB S,none⟩,w0,F,η0,px⟩) (K:=fun r O nx=>FIN ⟨P',⟨T',N,shB S,none⟩,w0,F,η0,none⟩ O nx r Q) hT hres hm1 (by simpa only[Z9E]using hr) fun w2 O2 v r H2 hd2 hk=>?_;obtain⟨r',O',nx',η',h5,h6,h7,h8⟩:=hk.out η1 w2 v ⟨H2.pre,H2.len,H2.own,H2.fr,H2.sok⟩ hd2;exact .inl ⟨v,rfl,r',O',nx',η',h5,h6,⟨h7.pre,h7.len,h7.own,h7.fr,h7.sok⟩,h8⟩
 intro e a w hq;cases e with
 |normal=>obtain⟨η1,fr1,O1,nx1,hm1,hq⟩:=hq;exact fin hm1 hq
 |ret=>obtain⟨η1,fr1,O1,nx1,hm1,hq⟩:=hq;exact fin hm1 hq
 |exit id=>obtain⟨η1,fr1,O1,nx1,hm1,hq⟩:=hq;exact hq.out.elim
 |goto l=>exact hq.elim
 |panic ch=>
  obtain⟨kp,X',h1,η1,O1,nx1,v,sv,rfl,hm1,hd1,hx⟩:=hq;rw[hpx]at h1;injection h1 with h1;injection h1 with h1 h2;subst h1 h2;obtain⟨r',O',nx',η',h5,h6,h7,h8⟩:=FIN.out hx η1 w v ⟨hm1.heap.pre,hm1.heap.len,hm1.heap.own,hm1.heap.fr,hm1.heap.sok⟩ hd1;have hdf:a.defers=[]:=hm1.defers;show LeavesInM _ _ _ _ _ _ a.defers _ w
  rw[hdf];exact .inr ⟨v,rfl,r',O',nx',η',h5,h6,⟨h7.pre,h7.len,h7.own,h7.fr,h7.sok⟩,h8⟩
 |outgrown=>exact hq.elim
theorem CALLE.of{M:Mx}{f:FuncId}{args:List SV}{O:Hps}{nx:Nat}{KP K:SV->Hps->Nat->Prop}{k:Nat}{argsc:List SV}{Oc Sc:Hps}{Q X:SV->Hps->Nat->Prop}(L:List Nat)(sp:DoesE M.P M.C.T f k argsc Oc Sc Q X)
 (hL:L.length=k) (hLn:∀i∈L,i<nx) (ha:args=renL (Zi L nx) argsc) (hb:ZM k argsc=true)
 (hO:∀p∈Oc,p.1<k/\lkp (Zi L nx p.1) O=some (renH (Zi L nx) p.2)/\Zg k p.2=true)
 (hOn:∀j∈Za Oc,∀j'∈Za Oc,Zi L nx j=Zi L nx j'->j=j')
 (hS:∀p∈Sc,p.1<k/\Yp M.C O (.loc (Zi L nx p.1))=some (renH (Zi L nx) p.2)/\Zg k p.2=true/\Zi L nx p.1∉ (Za Oc).map (Zi L nx))
 (hK:∀r O' nx',Q r O' nx'->K (ren (Zi L nx) r) (renO (Zi L nx) O'++ZV ((Za Oc).map (Zi L nx)) O) (nx+(nx'-k)))
 (hX:∀r O' nx',X r O' nx'->KP (ren (Zi L nx) r) (renO (Zi L nx) O'++ZV ((Za Oc).map (Zi L nx)) O) (nx+(nx'-k))):CALLE M f args O nx KP K:=by
 refine⟨fun η w vs H hd=>?_⟩;obtain⟨Mc,h1,h2,h3,h4,h5,h6,h7,h8⟩:=Z14 L hL hLn ha hb hO hOn hS H hd;refine(h1▸h5▸(sp.out Mc vs h1 h2 h3 h4 h6 h7)).mono ?_ ?_
 ·rintro v w' ⟨r,O',nx',η',hq,hpre,H',hdr⟩;obtain⟨η2,k1,k2,k3⟩:=h8 r O' nx' η' v w' hpre H' hdr;exact⟨_,_,_,η2,k1,k2,k3,hK r O' nx' hq⟩
 ·rintro v w' ⟨r,O',nx',η',hq,hpre,H',hdr⟩;obtain⟨η2,k1,k2,k3⟩:=h8 r O' nx' η' v w' hpre H' hdr;exact⟨_,_,_,η2,k1,k2,k3,hX r O' nx' hq⟩
theorem CALL.val{M:Mx}{f:FuncId}{args:List SV}{O:Hps}{nx:Nat}{K:SV->Hps->Nat->Prop}{r:SV}(sp:Does M.P M.C.T f 0 args [] [] fun r' O' nx'=>r'=r/\O'=[]/\nx'=0)(hp:YK args=true)(hr:plain r=true)(hK:K r O nx):CALL M f args O nx K:=by
 refine CALL.of [] sp rfl (fun i hi=>by cases hi) (ZI _ hp).symm (Zy 0 hp) (fun p hp=>by cases hp) (fun j hj=>by cases hj) (fun p hp=>by cases hp) ?_;rintro r' O' nx' ⟨rfl,rfl,rfl⟩;rw[Xf _ hr]
 have:ZV ((Za []).map (Zi [] nx)) O=O:=by
  clear hK sp
  induction O with
  |nil=>rfl
  |cons p O ih=>obtain⟨i,h⟩:=p;simp only[ZV,Za,List.map_nil,List.any_nil]at ih⊢;rw[ih]
 rw[this];simpa[renO]using hK
def Val(r0:SV):SV->Hps->Nat->Prop:=fun r O nx=>r=r0/\O=[]/\nx=0
theorem CALL.value{M:Mx}{f:FuncId}{args:List SV}{O:Hps}{nx:Nat}{K:SV->Hps->Nat->Prop}{r:SV}(sp:Does M.P M.C.T f 0 args [] [] (Val r))(hp:YK args=true)(hr:plain r=true)(hK:K r O nx):CALL M f args O nx K:=CALL.val sp hp hr hK
def SubS(C:Cx)(O:Hps)(σ:Nat->Nat)(k:Nat):Hps->Prop
 | []=>True
 |(i,h)::r=>(Nat.blt i k=true/\Yp C O (.loc (σ i))=some (renH σ h)/\Zg k h=true)/\SubS C O σ k r
theorem SubS.at{C:Cx}{O:Hps}{σ:Nat->Nat}{k:Nat}:∀{S:Hps},SubS C O σ k S->∀p∈S,p.1<k/\Yp C O (.loc (σ p.1))=some (renH σ p.2)/\Zg k p.2=true
 | [],_,p,hp=>by cases hp
 |(i,h)::r,hs,p,hp=>by
  rcases List.mem_cons.1 hp with rfl|hp
  ·exact⟨by simpa[Nat.blt_eq]using hs.1.1,hs.1.2⟩
  ·exact SubS.at hs.2 p hp
theorem Jg:∀O:Hps,ZV [] O=O
 | []=>rfl
 |(i,h)::O=>by
  have ih:=Jg O;simp only[ZV,List.any_nil]at ih⊢;rw[ih]
theorem CALL.look{M:Mx}{f:FuncId}{args:List SV}{O:Hps}{nx:Nat}{K:SV->Hps->Nat->Prop}{k:Nat}{argsc:List SV}{Sc:Hps}{Q:SV->Hps->Nat->Prop}(L:List Nat)(sp:Does M.P M.C.T f k argsc [] Sc Q)
 (hL:L.length=k) (hLn:L.all (fun i=>Nat.blt i nx)=true) (ha:args=renL (Zi L nx) argsc) (hb:ZM k argsc=true) (hS:SubS M.C O (Zi L nx) k Sc)
 (hK:∀r O' nx',Q r O' nx'->K (ren (Zi L nx) r) (renO (Zi L nx) O'++O) (nx+(nx'-k))):CALL M f args O nx K:=by
 refine CALL.of L sp hL (fun i hi=>by have:=List.all_eq_true.1 hLn i hi;simpa[Nat.blt_eq]using this) ha hb (fun p hp=>by cases hp) (fun j hj=>by cases hj) (fun p hp=>?_) (fun r O' nx' h=>?_)
 ·obtain⟨h1,h2,h3⟩:=hS.at p hp;exact⟨h1,h2,h3,fun h=>by cases h⟩
 ·have:=hK r O' nx' h;simpa[Za,Jg]using this
def ValK(k:Nat)(r0:SV):SV->Hps->Nat->Prop:=fun r O nx=>r=r0/\O=[]/\nx=k
theorem CALL.looks{M:Mx}{f:FuncId}{args:List SV}{O:Hps}{nx:Nat}{K:SV->Hps->Nat->Prop}{k:Nat}{argsc:List SV}{Sc:Hps}{r:SV}(L:List Nat)(sp:Does M.P M.C.T f k argsc [] Sc (ValK k r))
 (hL:L.length=k) (hLn:L.all (fun i=>Nat.blt i nx)=true) (ha:args=renL (Zi L nx) argsc) (hb:ZM k argsc=true) (hS:SubS M.C O (Zi L nx) k Sc) (hK:K (ren (Zi L nx) r) O nx):CALL M f args O nx K:=by
 refine CALL.look L sp hL hLn ha hb hS ?_;rintro r' O' nx' ⟨rfl,rfl,rfl⟩;simpa[renO]using hK
theorem Does.says{P:Program}{T:Tab}{f:FuncId}{args:List SV}{r:SV}(h:∀η w vs,DenL η args vs->∃v,(callFunc f ⟨vs⟩).run P w= .ok (.value v) w/\Den η r v):Does P T f 0 args [] [] (Val r):=by
 refine⟨fun M vs hP hT hF hS H hd=>?_⟩;obtain⟨v,h1,h2⟩:=h M.η0 M.w0 vs hd;exact .inr ⟨v,M.w0,by rw[hP];exact h1,r,[],0,M.η0,⟨rfl,rfl,rfl⟩,List.prefix_rfl,⟨H.pre,H.len,⟨fun i h hi=>by simp[lkp]at hi,fun i j h h' n hi=>by simp[lkp]at hi⟩,H.fr,H.sok⟩,h2⟩
theorem FIN.val{M:Mx}{O:Hps}{nx k:Nat}{r:SV}{Q:SV->Hps->Nat->Prop}(hk:M.η0.length=k)(hp:plain r=true)(hQ:Q r [] k):FIN M O nx r Q:=by
 refine⟨fun η w v H hd=>⟨r,[],k,M.η0,hQ,List.prefix_rfl,⟨List.prefix_rfl,hk,⟨fun i h hi=>by simp[lkp]at hi,fun i j h h' n hi=>by simp[lkp]at hi⟩,H.fr,H.sok⟩,?_⟩⟩;have hb:Bwd η M.η0 (fun i=>i) 0:=fun i x hi=>by omega
 exact Den.unren hb (XI 0 hp) (by rw[Xf _ hp];exact hd)
theorem FIN.value{M:Mx}{O:Hps}{nx:Nat}{r r0:SV}(hk:M.η0.length=0)(hp:plain r=true)(hQ:r=r0):FIN M O nx r (Val r0):=FIN.val hk hp ⟨hQ,rfl,rfl⟩
theorem FIN.valueK{M:Mx}{O:Hps}{nx k:Nat}{r r0:SV}(hk:M.η0.length=k)(hp:plain r=true)(hQ:r=r0):FIN M O nx r (ValK k r0):=FIN.val hk hp ⟨hQ,rfl,rfl⟩
def YM(k:Nat)(τ:List Nat)(j:Nat):Nat:=if j<k then j else τ.getD (j-k) 0
theorem HeapOK.names{M:Mx}{η:Env}{w:World}{O:Hps}{nx k:Nat}(H:HeapOK M η w O nx)(hk:M.η0.length=k)(τ:List Nat){Oc:Hps}(hτ:∀i∈τ,i<nx)
 (hO:∀p∈Oc,p.1<k+τ.length/\lkp (YM k τ p.1) O=some (renH (YM k τ) p.2)/\Zg (k+τ.length) p.2=true)
 (hn:∀j∈Za Oc,∀j'∈Za Oc,YM k τ j=YM k τ j'->j=j'):∃η',M.η0<+:η'/\HeapOK M η' w Oc (k+τ.length)/\Bwd η η' (YM k τ) (k+τ.length):=by
 generalize hσ:YM k τ=σ at*;obtain⟨η',hη'⟩:∃η':Env,η'=M.η0++τ.map (fun i=>(η[i]?).getD none):=⟨_,rfl⟩
 have hget:∀j,j<k+τ.length->η'[j]?=η[σ j]?:=by
  intro j hj;rw[hη',<-hσ];by_cases h:j<k
  ·rw[List.getElem?_append_left (by omega)];simp only[YM,if_pos h];obtain⟨t,ht⟩:=H.pre;rw[<-ht,List.getElem?_append_left (by omega)]
  ·rw[List.getElem?_append_right (by omega),hk,List.getElem?_map];have hlt:j-k<τ.length:=by omega
   simp only[YM,if_neg h,List.getElem?_eq_getElem hlt,Option.map_some,List.getD,Option.getD_some];have:=hτ _ (List.getElem_mem hlt);rw[List.getElem?_eq_getElem (by rw[H.len];exact this)]
   rfl
 have hbwd:Bwd η η' σ (k+τ.length):=fun j x hj hx=>by rw[hget j hj];exact hx
 have hOl:∀j h,lkp j Oc=some h->j<k+τ.length/\lkp (σ j) O=some (renH σ h)/\Zg (k+τ.length) h=true:=fun j h hj=>hO (j,h) (UO hj);refine⟨η',by rw[hη'];exact List.prefix_append _ _,⟨by rw[hη'];exact List.prefix_append _ _,by rw[hη'];simp[hk],⟨?_,?_⟩,H.fr,H.sok⟩,hbwd⟩
 ·intro j h hj;obtain⟨p1,p2,p3⟩:=hOl j h hj;exact⟨(H.own.1 _ _ p2).1.unren hbwd p1 p3,fun n f=>(H.own.1 _ _ p2).2 n (f.ren fun x hx=>by rw[<-hget j p1];exact hx)⟩
 ·intro j j' h h' n hj hj' hne f f';obtain⟨p1,p2,_⟩:=hOl j h hj;obtain⟨q1,q2,_⟩:=hOl j' h' hj';exact H.own.2 _ _ _ _ n p2 q2 (fun hh=>hne (hn j (Je hj) j' (Je hj') hh)) (f.ren fun x hx=>by rw[<-hget j p1];exact hx) (f'.ren fun x hx=>by rw[<-hget j' q1];exact hx)
theorem FIN.keep{M:Mx}{O:Hps}{nx k:Nat}{r:SV}{Q:SV->Hps->Nat->Prop}(hk:M.η0.length=k)(τ:List Nat){rc:SV}{Oc:Hps}(hτ:∀i∈τ,i<nx)(hr:r=ren (YM k τ) rc)(hb:ZQ (k+τ.length) rc=true)
 (hO:∀p∈Oc,p.1<k+τ.length/\lkp (YM k τ p.1) O=some (renH (YM k τ) p.2)/\Zg (k+τ.length) p.2=true)
 (hn:∀j∈Za Oc,∀j'∈Za Oc,YM k τ j=YM k τ j'->j=j') (hQ:Q rc Oc (k+τ.length)):FIN M O nx r Q:=by
 refine⟨fun η w v H hd=>?_⟩;obtain⟨η',h1,h2,h3⟩:=H.names hk τ hτ hO hn;exact⟨rc,Oc,k+τ.length,η',hQ,h1,h2,Den.unren h3 hb (by rw[<-hr];exact hd)⟩
def SubFr(σ:Nat->Nat)(m:Nat)(fr:Fr):Fr->Prop
 | []=>True
 |(t,v)::r=>(lkp t fr=some (ren σ v)/\ZQ m v=true)/\SubFr σ m fr r
theorem SubFr.at{σ:Nat->Nat}{m:Nat}{fr:Fr}:∀{fr':Fr},SubFr σ m fr fr'->∀t v,lkp t fr'=some v->lkp t fr=some (ren σ v)/\ZQ m v=true
 | [],_,t,v,h=>by simp[lkp]at h
 |(d,u)::r,hs,t,v,h=>by
  rw[Z6]at h;split at h
  ·rename_i e;subst e;injection h with h;subst h;exact hs.1
  ·exact SubFr.at hs.2 t v h
def SubO(σ:Nat->Nat)(m:Nat)(O:Hps):Hps->Prop
 | []=>True
 |(i,h)::r=>(Nat.blt i m=true/\lkp (σ i) O=some (renH σ h)/\Zg m h=true)/\SubO σ m O r
theorem SubO.at{σ:Nat->Nat}{m:Nat}{O:Hps}:∀{O':Hps},SubO σ m O O'->∀p∈O',p.1<m/\lkp (σ p.1) O=some (renH σ p.2)/\Zg m p.2=true
 | [],_,p,hp=>by cases hp
 |(i,h)::r,hs,p,hp=>by
  rcases List.mem_cons.1 hp with rfl|hp
  ·exact⟨by simpa[Nat.blt_eq]using hs.1.1,hs.1.2⟩
  ·exact SubO.at hs.2 p hp
def Z8r:Option SV->Bool
 |some (.dfs _)=>true
 |_=>false
def Z1H(fr fr':Fr):Bool:=match Z8r (lkp DS fr)with
 |true=>Z8r (lkp DS fr')
 |false=>!(Z8r (lkp DS fr'))
theorem DfOK.no{η:Env}{ds:List Deferred}{v:Option SV}(h:Z8r v=false):DfOK η ds v<->ds=[]:=by
 cases v with
 |none=>exact Iff.rfl
 |some v=>cases v<;>first|exact Iff.rfl|cases h
theorem DfOK.goes{η η':Env}{σ:Nat->Nat}{m:Nat}{fr fr':Fr}{ds:List Deferred}(hb:Bwd η η' σ m)(hd:Z1H fr fr'=true)(hf:∀v,lkp DS fr'=some v->lkp DS fr=some (ren σ v)/\ZQ m v=true)(h:DfOK η ds (lkp DS fr)):DfOK η' ds (lkp DS fr'):=by
 unfold Z1H at hd;split at hd
 ·cases hv:lkp DS fr' with
  |none=>rw[hv]at hd;cases hd
  |some v=>
   rw[hv]at hd;cases v with
   |dfs l=>
    obtain⟨h1,h2⟩:=hf _ hv;rw[h1]at h;simp only[DfOK,ren]at h⊢;exact DfL.unren hb (by simpa only[ZQ]using h2) h
   |_=>cases hd
 ·rename_i h1;rw[DfOK.no h1]at h;rw[DfOK.no (by simpa using hd)];exact h
def Z1I(ro:Option (Nat×Nat))(σ:Nat->Nat)(m:Nat):Bool:=match ro with
 |none=>true
 |some p=>Nat.blt p.2 m&&Nat.beq (σ p.2) p.2
theorem Z6T{ro:Option (Nat×Nat)}{σ:Nat->Nat}{m l j:Nat}(h:Z1I ro σ m=true)(hr:ro=some (l,j)):j<m/\σ j=j:=by
 subst hr;simp only[Z1I,Bool.and_eq_true,Nat.blt_eq]at h;exact⟨h.1,Zn h.2⟩
theorem GOES.keep{M:Mx}{fr:Fr}{O:Hps}{nx k:Nat}{fr':Fr}{O':Hps}(hk:M.η0.length=k)(τ:List Nat)(hτ:τ.all (fun i=>Nat.blt i nx)=true)(hf:SubFr (YM k τ) (k+τ.length) fr fr')(hO:SubO (YM k τ) (k+τ.length) O O')
 (hn:(Za O').all (fun j=>(Za O').all fun j'=>!(Nat.beq (YM k τ j) (YM k τ j'))||Nat.beq j j')=true) (hd:Z1H fr fr'=true:=by rfl) (hro:Z1I M.C.ro (YM k τ) (k+τ.length)=true:=by rfl):GOES M fr O nx fr' O' (k+τ.length):=by
 refine⟨fun η a w hm=>?_⟩
 obtain⟨η',h1,h2,h3⟩:=hm.heap.names hk τ (fun i hi=>by have:=List.all_eq_true.1 hτ i hi;simpa[Nat.blt_eq]using this) hO.at (fun j hj j' hj' he=>by
  have:=List.all_eq_true.1 (List.all_eq_true.1 hn j hj) j' hj';simp only[he,Xl,Bool.not_true,Bool.false_or]at this
  exact Zn this)
 refine⟨η',h2,hm.size,hm.nds,hm.defers.goes h3 hd (fun v hv=>hf.at DS v hv),fun l j hj=>?_,fun t v ht=>?_⟩
 ·obtain⟨h4,h5⟩:=Z6T hro hj;obtain⟨e,h6,h7⟩:=hm.ro l j hj;exact⟨e,h3 j _ h4 (by rw[h5];exact h6),h7⟩
 obtain⟨h4,h5⟩:=hf.at t v ht;exact Den.unren h3 h5 (hm.frame t _ h4)
theorem Does.calls{P:Program}{T:Tab}{g:FuncId}{args:List SV}{r:SV}{vs:List Value}{w:World}(sp:Does P T g 0 args [] [] (Val r))(eg:∀args w,(callFunc g args).run P w= .ok (.enter g args) w)(hd:DenL [] args vs)
 (hg:∀g h,lkp g T.globs=some h->HpSat [] w false (.glob g) h/\g<w.heap.size):
 Calls P g ⟨vs⟩ w fun e w'=> ∃v,e= .returned v/\Den [] r v/\FrW w w' fun _=>False:=by
 have H:HeapOK ⟨P,⟨T,0,[],none⟩,w,fun _=>False,[],none⟩ [] w [] 0:=⟨List.prefix_rfl,rfl,⟨fun i h hi=>by simp[lkp]at hi,fun i j h h' n hi=>by simp[lkp]at hi⟩,FrW.refl _ _,fun b h hb=>by
  cases b with
  |loc i=>simp[lkS,lkpB]at hb
  |glob g=>
   obtain⟨h1,h2⟩:=hg g h hb
   exact⟨h1,fun k f=>⟨h1.feet_lt f,fun h=>h⟩⟩⟩
 have hF:(fun _=>False:Nat->Prop)=Yk [] w []:=by
  funext n;simp[Yk,lkp]
 rcases sp.out ⟨P,⟨T,0,[],none⟩,w,fun _=>False,[],none⟩ vs rfl rfl hF rfl H hd with⟨g',h1,h2⟩|⟨v,w',h1,_⟩
 ·rw[eg]at h1;injection h1 with h1 _;injection h1 with h1 _;subst h1;refine h2.mono fun e w' he=>?_;obtain⟨v,rfl,r',O',nx',η',⟨rfl,rfl,rfl⟩,_,h4,h5⟩:=he;have:η'=[]:=List.length_eq_zero_iff.1 h4.len;subst this;exact⟨v,rfl,h5,h4.fr⟩
 ·rw[eg]at h1;cases h1
section
variable {σ:Nat->Nat}
theorem Z5B(h:∀j,σ j=j):∀b,renB σ b=b
 | .glob g=>rfl
 | .loc i=>by simp only[renB,h]
mutual
theorem Z3l(h:∀j,σ j=j):∀v,ren σ v=v
 | .bool _=>rfl
 | .int _ _=>rfl
 | .str _=>rfl
 | .val _=>rfl
 | .any=>rfl
 | .nb _=>rfl
 | .dfs l=>by simp only[ren,UR h l]
 | .yf b=>by simp only[ren,Z5B h]
 | .mp b=>by simp only[ren,Z5B h]
 | .ptr b _ _ _=>by simp only[ren,Z5B h]
 | .sl b _ _ _ _=>by simp only[ren,Z5B h]
 | .agg cs=>by simp only[ren,UR h cs]
 | .arr _ rs=>by simp only[ren,Z0t h rs]
 | .tup vs=>by simp only[ren,UR h vs]
 | .ifc _ v=>by simp only[ren,Z3l h v]
 | .fn _ a b=>by simp only[ren,UR h a,UR h b]
theorem UR(h:∀j,σ j=j):∀vs,renL σ vs=vs
 | []=>rfl
 |c::cs=>by simp only[renL,Z3l h c,UR h cs]
theorem Z0t(h:∀j,σ j=j):∀vs,Xt σ vs=vs
 | []=>rfl
 |c::cs=>by simp only[Xt,UR h c,Z0t h cs]
end
theorem Zcu(h:∀j,σ j=j):∀fr,renF σ fr=fr
 | []=>rfl
 |(t,v)::r=>by simp only[renF,Z3l h v,Zcu h r]
theorem Zgg(h:∀j,σ j=j):∀c,renC σ c=c
 | .v s=>by simp only[renC,Z3l h]
 | .kid _ rs=>by simp only[renC,Z0t h]
theorem Z9I(h:∀j,σ j=j):∀r,Z0o σ r=r
 | []=>rfl
 |c::cs=>by simp only[Z0o,Zgg h,Z9I h cs]
theorem Z6X(h:∀j,σ j=j):∀r,XM σ r=r
 | []=>rfl
 |c::cs=>by simp only[XM,Z9I h,Z6X h cs]
theorem Zgh(h:∀j,σ j=j):∀hp,renH σ hp=hp
 | .deep _ _ _=>by simp only[renH,Z6X h]
 | .box _=>by simp only[renH,UR h]
 | .rows _ _=>by simp only[renH,Z0t h]
 | .siter _ _=>rfl
 | .tbl _=>rfl
 | .bld _ _ _=>rfl
 | .dfr _=>rfl
 | .lp _ _ fr=>by simp only[renH,Zcu h]
 | .mp _=>by simp only[renH,Z0t h]
end
def CutFr(m:Nat)(fr:Fr):Fr->Prop
 | []=>True
 |(t,v)::r=>(lkp t fr=some v/\ZQ m v=true)/\CutFr m fr r
def CutO(m:Nat)(O:Hps):Hps->Prop
 | []=>True
 |(i,h)::r=>(lkp i O=some h/\Nat.blt i m=true/\Zg m h=true)/\CutO m O r
theorem CutFr.at{m:Nat}{fr:Fr}:∀{fr':Fr},CutFr m fr fr'->∀t v,lkp t fr'=some v->lkp t fr=some v/\ZQ m v=true
 | [],_,t,v,h=>by simp[lkp]at h
 |(d,u)::r,hs,t,v,h=>by
  rw[Z6]at h;split at h
  ·rename_i e;subst e;injection h with h;subst h;exact hs.1
  ·exact CutFr.at hs.2 t v h
theorem CutO.at{m:Nat}{O:Hps}:∀{O':Hps},CutO m O O'->∀i h,lkp i O'=some h->lkp i O=some h/\i<m/\Zg m h=true
 | [],_,t,v,h=>by simp[lkp]at h
 |(d,u)::r,hs,t,v,h=>by
  rw[Z6]at h;split at h
  ·rename_i e;subst e;injection h with h;subst h
   exact⟨hs.1.1,by simpa[Nat.blt_eq]using hs.1.2.1,hs.1.2.2⟩
  ·exact CutO.at hs.2 t v h
variable {M:Mx}{fr fr':Fr}{O O':Hps}{nx:Nat}
theorem GOES.cut{k:Nat}(m:Nat)(hk:M.η0.length=k)(hkm:Nat.ble k m=true)(hmn:Nat.ble m nx=true)(hf:CutFr m fr fr')(hO:CutO m O O')(hd:Z1H fr fr'=true:=by rfl)(hro:Z1I M.C.ro id m=true:=by rfl):GOES M fr O nx fr' O' m:=by
 have hkm:=Nat.le_of_ble_eq_true hkm;have hmn:=Nat.le_of_ble_eq_true hmn;refine⟨fun η a w hm=>?_⟩;have hid:∀j:Nat,id j=j:=fun _=>rfl
 have hbwd:Bwd η (η.take m) id m:=fun i x hi hx=>by
  simp only[id]at hx;rw[List.getElem?_take,if_pos hi];exact hx
 have hlen:(η.take m).length=m:=by rw[List.length_take,hm.heap.len];omega
 refine⟨η.take m,⟨?_,hlen,⟨fun i h hi=>?_,fun i j h h' n hi hj hij f f'=>?_⟩,hm.heap.fr,hm.heap.sok⟩,hm.size,hm.nds,hm.defers.goes hbwd hd (fun v hv=>by rw[Z3l hid];exact hf.at DS v hv),fun l j hj=>?_,fun t v ht=>?_⟩
 ·obtain⟨t,ht⟩:=hm.heap.pre;refine⟨t.take (m-k),?_⟩;rw[<-ht,List.take_append,hk,List.take_of_length_le (l:=M.η0) (by omega)]
 ·obtain⟨h1,h2,h3⟩:=hO.at i h hi;refine⟨HpSat.unren hbwd h2 h3 ?_,fun n f=>(hm.heap.own.1 i h h1).2 n (f.mono (List.take_prefix m η))⟩;rw[Zgh hid];exact(hm.heap.own.1 i h h1).1
 ·obtain⟨h1,h2,h3⟩:=hO.at i h hi;obtain⟨h4,h5,h6⟩:=hO.at j h' hj;exact hm.heap.own.2 i j h h' n h1 h4 hij (f.mono (List.take_prefix m η)) (f'.mono (List.take_prefix m η))
 ·obtain⟨h4,_⟩:=Z6T hro hj;obtain⟨e,h6,h7⟩:=hm.ro l j hj;exact⟨e,hbwd j _ h4 h6,h7⟩
 ·obtain⟨h1,h2⟩:=hf.at t v ht;exact Den.unren hbwd h2 (by rw[Z3l hid];exact hm.frame t v h1)
def cutK(fr:Fr):Fr->Prop
 | []=>True
 |(t,v)::r=>match lkp t fr with
  |some u=>u=v/\cutK fr r
  |none=>False
def Zcv(O:Hps):Hps->Prop
 | []=>True
 |(i,h)::r=>match lkp i O with
  |some g=>g=h/\Zcv O r
  |none=>False
def Uf(m:Nat):Fr->Bool
 | []=>true
 |(_,v)::r=>ZQ m v&&Uf m r
def Zl(m:Nat):Hps->Bool
 | []=>true
 |(i,h)::r=>Nat.blt i m&& (Zg m h&&Zl m r)
theorem Zcw{m:Nat}{fr:Fr}:∀{fr':Fr},cutK fr fr'->Uf m fr'=true->CutFr m fr fr'
 | [],_,_=>trivial
 |(t,v)::r,h,b=>by
  simp only[cutK]at h;simp only[Uf,Bool.and_eq_true]at b;split at h
  ·rename_i u hu;obtain⟨rfl,h⟩:=h;exact⟨⟨hu,b.1⟩,Zcw h b.2⟩
  ·exact h.elim
theorem Zcx{m:Nat}{O:Hps}:∀{O':Hps},Zcv O O'->Zl m O'=true->CutO m O O'
 | [],_,_=>trivial
 |(t,v)::r,h,b=>by
  simp only[Zcv]at h;simp only[Zl,Bool.and_eq_true]at b;split at h
  ·rename_i u hu;obtain⟨rfl,h⟩:=h;exact⟨⟨hu,b.1,b.2.1⟩,Zcx h b.2.2⟩
  ·exact h.elim
theorem GOES.cutting{k m:Nat}(hk:M.η0.length=k)(hkm:Nat.ble k m=true)(hmn:Nat.ble m nx=true)(hbf:Uf m fr'=true)(hbo:Zl m O'=true)(hf:cutK fr fr')(hO:Zcv O O')(hd:Z1H fr fr'=true:=by rfl)(hro:Z1I M.C.ro id m=true:=by rfl):GOES M fr O nx fr' O' m:=
 GOES.cut m hk hkm hmn (Zcw hf hbf) (Zcx hO hbo) hd hro
theorem GOES.trans{fr2:Fr}{O2:Hps}{n1 n2:Nat}(h:GOES M fr O nx fr' O' n1)(k:GOES M fr' O' n1 fr2 O2 n2):GOES M fr O nx fr2 O2 n2:=
 ⟨fun η a w hm=>let⟨η1,h1⟩:=h.out η a w hm;k.out η1 a w h1⟩
theorem GOES.nil(t es:Nat)(h0:lkp t fr=some (.val (.slice none 0 0))):GOES M fr O nx ((t, .sl (.loc nx) 0 es 0 none)::fr) ((nx, .rows es [])::O) (nx+1):=by
 refine⟨fun η a w hm=>?_⟩;have hpre:η<+:η++ [none]:=List.prefix_append _ _;have hnew:(η++ [none])[nx]?=some none:=by rw[List.getElem?_append_right (by rw[hm.heap.len];omega),hm.heap.len];simp
 refine⟨η++ [none],hm.heap.push none (fun _ _=>rfl) (Nat.le_refl _) rfl rfl rfl (Nat.le_refl _) (.inl ⟨hnew,rfl⟩) (fun k f=>(feet.none (b:= .loc nx) hnew f).elim) (fun k f=>(feet.none (b:= .loc nx) hnew f).elim),hm.size,hm.nds,?_,U7 hpre hm.ro,fun u v hu=>?_⟩
 ·have hdf:=hm.defers.mono hpre;rw[Z6];split
  ·rename_i e;rw[e,h0,DfOK.no rfl]at hdf;rw[DfOK.no rfl];exact hdf
  ·exact hdf
 ·rw[Z6]at hu;split at hu
  ·rename_i e;subst e;injection hu with hu;subst hu
   have:=hm.frame u _ h0;simp only[Den]at this⊢;exact .inl ⟨hnew,this.1,trivial⟩
  ·exact Den.mono hpre (hm.frame u v hu)
theorem LOOP.goes{body:Code}{Q:Post}{n1:Nat}(h:GOES M fr O nx fr' O' n1)(k:LOOP M body fr' O' n1 Q):LOOP M body fr O nx Q:=
 ⟨fun η a w hm=>let⟨η1,h1⟩:=h.out η a w hm;k.out η1 a w h1⟩
theorem LOOP.nil{body:Code}{Q:Post}(t es:Nat)(h0:lkp t fr=some (.val (.slice none 0 0)))(k:LOOP M body ((t, .sl (.loc nx) 0 es 0 none)::fr) ((nx, .rows es [])::O) (nx+1) Q):LOOP M body fr O nx Q:=LOOP.goes (GOES.nil t es h0) k
theorem FIN.rows{k:Nat}{r:SV}{Q:SV->Hps->Nat->Prop}(hk:M.η0.length=k)(i es len:Nat){rs:List (List SV)}(hr:r= .sl (.loc i) 0 es len none)(hO:lkp i O=some (.rows es rs))(hi:Nat.blt i nx=true)(hp:Zh rs=true)
 (hQ:Q (.sl (.loc k) 0 es len none) [(k, .rows es rs)] (k+1)):FIN M O nx r Q:=by
 have hi:i<nx:=by simpa[Nat.blt_eq]using hi
 have hf:YM k [i] k=i:=by simp[YM]
 refine FIN.keep hk [i] (rc:= .sl (.loc k) 0 es len none) (Oc:=[(k, .rows es rs)]) (fun j hj=>by simp at hj;omega) (by rw[hr];simp only[ren,renB,hf]) (by simp[ZQ,WD,Nat.blt_eq]) ?_ ?_ hQ
 ·intro p hp';simp only[List.mem_singleton]at hp';subst hp';refine⟨by simp,?_,by simp only[Zg,Z2 _ hp]⟩;simp only[renH,hf,Zf _ hp,hO]
 ·intro j hj j' hj' _;simp[Za]at hj hj';omega
def Z9J(k:Nat)(l:List UInt8):SV->Hps->Nat->Prop:=fun r O nx=>r= .sl (.loc k) 0 1 l.length none/\O=[(k, .rows 1 (l.map bytesRow))]/\nx=k+1
theorem XO(l:List UInt8):Zh (l.map bytesRow)=true:=Zz _ (fun _=>rfl) l
theorem Z5C{L:List Nat}{nx k:Nat}(hL:L.length=k):Zi L nx k=nx:=by simp[Zi,hL]
theorem CALL.bytes{f:FuncId}{args:List SV}{K:SV->Hps->Nat->Prop}{l:List UInt8}(sp:Does M.P M.C.T f 0 args [] [] (Z9J 0 l))(hp:YK args=true)
 (hK:K (.sl (.loc nx) 0 1 l.length none) ((nx, .rows 1 (l.map bytesRow))::O) (nx+1)):CALL M f args O nx K:=by
 refine CALL.of [] sp rfl (fun i hi=>by cases hi) (ZI _ hp).symm (Zy 0 hp) (fun p hp=>by cases hp) (fun j hj=>by cases hj) (fun p hp=>by cases hp) ?_;rintro r' O' nx' ⟨rfl,rfl,rfl⟩;simp only[ren,renB,renO,renH,Zf _ (XO l),Z5C (L:=[]) (nx:=nx) (k:=0) rfl,Za,List.map_nil,Jg,List.cons_append,List.nil_append];exact hK
theorem Z6Y(xs:List UInt8)(r n:Nat):((xs.map bytesRow).drop r).take n=((xs.drop r).take n).map bytesRow:=by rw[List.map_take,List.map_drop]
theorem Zcy(xs:List UInt8):(xs.map bytesRow).map Z0U=xs:=Z0m xs
theorem Ug{xs:List UInt8}{r n:Nat}(h:r+n<=xs.length):(((xs.map bytesRow).drop r).take n).length=n/\∃l:List UInt8,((xs.map bytesRow).drop r).take n=l.map bytesRow:=
 ⟨by simp;omega,_,Z6Y xs r n⟩
theorem Z8v(xs:List UInt8):(((xs.map bytesRow).drop 0).take xs.length).map Z0U=xs:=by rw[Z6Y,Zcy];simp
theorem CALL.look1{f:FuncId}{args argsc:List SV}{K:SV->Hps->Nat->Prop}{es:Nat}{rs:List (List SV)}{r:SV}(i:Nat)(sp:Does M.P M.C.T f 1 argsc [] [(0, .rows es rs)] (ValK 1 r))
 (ha:args=renL (Zi [i] nx) argsc) (hi:Nat.blt i nx=true) (hb:ZM 1 argsc=true) (hO:Yp M.C O (.loc i)=some (.rows es rs)) (hp:Zh rs=true) (hr:plain r=true) (hK:K r O nx):CALL M f args O nx K:=by
 refine CALL.looks [i] sp rfl (by simp[hi]) ha hb ⟨⟨rfl,?_,YA _ hp⟩,trivial⟩ ?_
 ·rw[show renH (Zi [i] nx) (.rows es rs)= .rows es rs from Zw _ hp];exact hO
 ·rw[Xf _ hr];exact hK
def ZaR:List Nat->Fr->(Fr->Prop)->Prop
 | [],fr,K=>match lkp DS fr with
   |some v=>K [(DS,v)]
   |none=>K []
 |t::ts,fr,K=>match lkp t fr with
  |some v=>ZaR ts fr fun r=>K ((t,v)::r)
  |none=>STOP "kept"
def appK:Fr->Fr->(Fr->Prop)->Prop
 | [],r,K=>K r
 |(t,v)::l,r,K=>appK l r fun r=>K ((t,v)::r)
def appO:Hps->(Hps->Prop)->Prop
 | [],K=>K []
 |(t,v)::l,K=>appO l fun r=>K ((t,v)::r)
theorem Z3m:∀{ts:List Nat} {fr:Fr} {K:Fr->Prop},ZaR ts fr K->∃r,K r
 | [],fr,K,h=>by
   simp only[ZaR]at h;split at h
   ·exact⟨_,h⟩
   ·exact⟨_,h⟩
 |t::ts,fr,K,h=>by
  simp only[ZaR]at h;split at h
  ·obtain⟨r,hr⟩:=Z3m h;exact⟨_,hr⟩
  ·exact h.out.elim
theorem Z5D:∀{l r:Fr} {K:Fr->Prop},appK l r K<->K (l++r)
 | [],r,K=>Iff.rfl
 |(t,v)::l,r,K=>by simp only[appK,List.cons_append,Z5D]
theorem Z9K:∀{l:Hps} {K:Hps->Prop},appO l K<->K l
 | [],K=>Iff.rfl
 |(t,v)::l,K=>by simp only[appO,Z9K]
theorem LOOP.go{body:Code}{Q:Post}(hT:TabOK M.P M.C.T)(ks:List Nat){X:Type}(P:X->Prop)(chg:X->Fr)(Ox:X->Hps)(n0:Nat)(μ:X->Nat)(x0:X)(hP:P x0)
 (h:ZaR ks fr fun fr0=>(appK (chg x0) fr0 fun fr'=>appO (Ox x0) fun O'=>GOES M fr O nx fr' O' n0)/\
   ∀x,P x->appK (chg x) fr0 fun fr1=>appO (Ox x) fun O1=>run M body fr1 O1 n0 fun e fr O nx=>match e with
    | .normal=> ∃x',P x'/\μ x'<μ x/\appK (chg x') fr0 fun fr'=>appO (Ox x') fun O'=>GOES M fr O nx fr' O' n0
    |e=>Q e fr O nx):LOOP M body fr O nx Q:=by
 obtain⟨fr0,h1,h2⟩:=Z3m h;simp only[Z5D,Z9K]at h1 h2;exact LOOP.inv hT P (fun x=>(chg x++fr0,Ox x,n0)) μ x0 hP h1 h2
theorem GETG.at{rs:List (List SV)}{i:Nat}{g:Prop}{K:List SV->Prop}{row:List SV}(h:rs[i]?=some row)(k:K row):GETG g rs i K:=⟨row,fun _=>h,k⟩
theorem Z9{a:Int}(h1: -9223372036854775808<=a)(h2:a<=9223372036854775807):IntKind.i64.wrap a=a:=IntWalk.i64_in _ ⟨by omega,by omega⟩
theorem Zo{a:Int}(h1: -2147483648<=a)(h2:a<=2147483647):IntKind.i32.wrap a=a:=IntWalk.i32_in _ ⟨by omega,by omega⟩
theorem hsB:(∀(p:Prop) [Decidable p],(decide p=true)=p)/\(∀(p:Prop) [Decidable p],(decide p=false)<->¬p)/\(∀b:Bool,(¬b=true)=(b=false))/\(∀b:Bool,(¬b=false)=(b=true))/\(∀a b:Bool,((!a)=b)<->(a=!b))/\
 ((!true)=false)/\((!false)=true)/\(∀a b:Bool,((a&&b)=true)=(a=true/\b=true))/\(∀a b:Bool,((a||b)=true)=(a=true\/b=true))/\(∀a b:Bool,((a&&b)=false)=(a=true->b=false))/\(∀a b:Bool,((a||b)=false)=(a=false/\b=false))/\
 (∀{α:Type} [BEq α] [LawfulBEq α] (a b:α),((a !=b)=true)<->a≠b)/\(∀{α:Type} [BEq α] [LawfulBEq α] (a b:α),((a !=b)=false)<->a=b)/\(∀{α:Type} [BEq α] [LawfulBEq α] (a b:α),((a==b)=true)<->a=b)/\(∀{α:Type} [BEq α] [LawfulBEq α] (a b:α),((a==b)=false)<->a≠b)/\
 (∀{α:Type} (a b:α),(a≠b)=¬(a=b))/\(∀c:Bool,(bif c then c else false)=c)/\(∀a b:Bool,(bif a then b else false)=(a&&b))/\(∀a b:Bool,(bif a then true else b)=(a||b))/\(∀a b:Bool,(bif a then b else true)=(!a||b))/\(∀a b:Bool,(bif a then false else b)=(!a&&b)):=
 ⟨fun p _=>by simp,fun p _=>by simp,fun b=>by simp,fun b=>by simp,fun a b=>by cases a<;>cases b<;>simp,rfl,rfl,fun a b=>by simp,fun a b=>by simp,fun a b=>by simp,fun a b=>by simp,fun a b=>by simp,fun a b=>by simp,fun a b=>by simp,fun a b=>by simp,
  fun a b=>rfl,fun c=>by cases c<;>rfl,fun a b=>by cases a<;>rfl,fun a b=>by cases a<;>rfl,fun a b=>by cases a<;>rfl,fun a b=>by cases a<;>rfl⟩
theorem hsC:(∀a b:Int,(¬a<b)<->b<=a)/\(∀a b:Int,(¬a<=b)<->b<a)/\(decide True=true)/\(decide False=false)/\(∀{α:Type} (a b:α),(bif true then a else b)=a)/\(∀{α:Type} (a b:α),(bif false then a else b)=b)/\
 (∀b:Bool,(true||b)=true)/\(∀b:Bool,(b||true)=true)/\(∀b:Bool,(false||b)=b)/\(∀b:Bool,(b||false)=b)/\(∀b:Bool,(true&&b)=b)/\(∀b:Bool,(b&&true)=b)/\(∀b:Bool,(false&&b)=false)/\(∀b:Bool,(b&&false)=false)/\
 (∀p:Prop,(True\/p)=True)/\(∀p:Prop,(p\/True)=True)/\(∀p:Prop,(False\/p)=p)/\(∀p:Prop,(p\/False)=p)/\(∀p:Prop,(True/\p)=p)/\(∀p:Prop,(p/\True)=p)/\(∀p:Prop,(False/\p)=False)/\(∀p:Prop,(p/\False)=False)/\
 ((¬True)=False)/\((¬False)=True)/\((false=true)=False)/\((true=false)=False)/\(∀p q:Prop,(¬(p\/q))<->(¬p/\¬q))/\(∀p q:Prop,(¬(p/\q))<->(p->¬q))/\(∀p:Prop,(¬ ¬p)<->p):=
 ⟨fun a b=>Int.not_lt,fun a b=>Int.not_le,by simp,by simp,fun a b=>rfl,fun a b=>rfl,fun b=>by simp,fun b=>by simp,fun b=>by simp,fun b=>by simp,fun b=>by simp,fun b=>by simp,fun b=>by simp,fun b=>by simp,fun p=>by simp,fun p=>by simp,fun p=>by simp,fun p=>by simp,fun p=>by simp,fun p=>by simp,fun p=>by simp,fun p=>by simp,
  by simp,by simp,by simp,by simp,fun p q=>by simp,fun p q=>by simp,fun p=>Classical.not_not⟩
theorem lnB:(∀{α:Type} (a:α) (l:List α),(a::l).length=l.length+1)/\(∀{α:Type},([]:List α).length=0)/\(∀{α:Type} (a b:List α),(a++b).length=a.length+b.length)/\(∀p:Prop,(True/\p)=p)/\(∀p:Prop,(p/\True)=p):=
 ⟨fun a l=>rfl,rfl,fun a b=>List.length_append,fun p=>by simp,fun p=>by simp⟩
theorem Zj{xs:List (List SV)}{m n k b:Nat}(B:Nat)(hb:Nat.ble b B=true)(hB:Nat.ble 1 B=true)(h1:xs.length=m)(h2:n<=k)(h3:min (2*(n+m)) ((n+m)+(n+m)/4+192)*B<=281474976710656):xs.length=m/\n<=k/\n+m<=9223372036854775807/\min (2*(n+m)) ((n+m)+(n+m)/4+192)*b<=281474976710656:=by
 have hb:=Nat.le_of_ble_eq_true hb;have hB:=Nat.le_of_ble_eq_true hB;refine⟨h1,h2,?_,Nat.le_trans (Nat.mul_le_mul_left _ hb) h3⟩;have:n+m<=min (2*(n+m)) ((n+m)+(n+m)/4+192)*B:=Nat.le_trans (by omega) (Nat.le_mul_of_pos_right _ hB);omega
theorem Z0u{O:Hps}{b:Blk}{r len:Nat}{lim:Option Nat}{n:Nat}(h:n<=len):(n:Int)<=(reach O b r len lim:Nat):=by
 have:len<=reach O b r len lim:=by
  unfold reach;split
  ·exact Nat.le_refl _
  ·split
   ·exact Nat.le_max_left _ _
   ·exact Nat.le_refl _
 omega
end Go.Sx
namespace Go.Our
open Go.Sx
abbrev Sm(s:List UInt8):Prop:=s.length<=1152921504606846976
abbrev bn(c:UInt8):Int:=(c.toNat:Int)
theorem Z3n(c:UInt8):0<=bn c/\bn c<256:=by
 have:=c.toNat_lt;unfold bn;omega
theorem ZG(s:List UInt8)(i:Int):0<=Z1 s i/\Z1 s i<256:=Z3n _
def Yq(r:Int):Prop:=0<=r/\r<=1114111/\(r<55296\/57343<r)
instance (r:Int):Decidable (Yq r):=by unfold Yq;infer_instance
def Uh(r:Int):Bool:=decide (Yq r)
theorem YU{r:Int}:Uh r=true<->0<=r/\r<=1114111/\(r<55296\/57343<r):=decide_eq_true_iff
theorem Z0v{r:Int}:Uh r=false<->¬(0<=r/\r<=1114111/\(r<55296\/57343<r)):=decide_eq_false_iff_not
def Z4f(c:Int):Int×Int:=
 if c<128 then(1,c)else if c<192 then(0,0)else if c<224 then(2,c%32)else if c<240 then(3,c%16)else if c<248 then(4,c%8)else(0,0)
def Z6Z(n:Int):Int:=if n=2 then 128 else if n=3 then 2048 else if n=4 then 65536 else 0
theorem Zgi:Z6Z 1=0:=rfl
theorem Zgj:Z6Z 2=128:=rfl
theorem Zgk:Z6Z 3=2048:=rfl
theorem Zgl:Z6Z 4=65536:=rfl
def r2(a b:Int):Int:=a%32*64+b%64
def r3(a b c:Int):Int:=(a%16*64+b%64)*64+c%64
def r4(a b c d:Int):Int:=((a%8*64+b%64)*64+c%64)*64+d%64
def decB(m a b c d:Int):Int×Int:=
 if a<128 then(a,1)
 else if a<192 then(0,0)
 else if a<224 then
  if 2<=m/\(128<=b/\b<192)/\128<=r2 a b then(r2 a b,2)else(0,0)
 else if a<240 then
  if 3<=m/\(128<=b/\b<192)/\(128<=c/\c<192)/\2048<=r3 a b c/\(r3 a b c<55296\/57343<r3 a b c)then(r3 a b c,3)else(0,0)
 else if a<248 then
  if 4<=m/\(128<=b/\b<192)/\(128<=c/\c<192)/\(128<=d/\d<192)/\65536<=r4 a b c d/\r4 a b c d<=1114111 then(r4 a b c d,4)else(0,0)
 else(0,0)
def Zb(s:List UInt8)(i:Int):Int×Int:=if i<0\/(s.length:Int)<=i then(0,0)else decB (s.length-i) (Z1 s i) (Z1 s (i+1)) (Z1 s (i+2)) (Z1 s (i+3))
theorem ZhB(m a b c d:Int)(h:1<=m):(decB m a b c d).2=0\/1<=(decB m a b c d).2/\(decB m a b c d).2<=4/\(decB m a b c d).2<=m:=by
 unfold decB
 (repeat' split)<;>simp<;>omega
theorem YX(s:List UInt8)(i:Int):(Zb s i).2=0\/1<=(Zb s i).2/\(Zb s i).2<=4/\(Zb s i).2<=s.length-i:=by
 unfold Zb;split
 ·simp
 ·exact ZhB _ _ _ _ _ (by omega)
def chk(s:List UInt8)(i:Nat):Int:=
 if h:i<s.length/\(Zb s i).2≠0 then chk s (i+(Zb s i).2.toNat)else if i<s.length then i else-1
termination_by s.length-i
decreasing_by have:=YX s i;omega
theorem Z8w{s:List UInt8}{i:Nat}(h:s.length<=i):chk s i= -1:=by
 rw[chk,dif_neg (by omega),if_neg (by omega)]
theorem Z5E{s:List UInt8}{i:Nat}(h:i<s.length)(h0:(Zb s i).2=0):chk s i=i:=by
 rw[chk,dif_neg (by simp[h0]),if_pos h]
theorem Z2h{s:List UInt8}{i:Nat}(h:i<s.length)(h0:(Zb s i).2≠0):chk s i=chk s (i+(Zb s i).2.toNat):=by
 rw[chk,dif_pos ⟨h,h0⟩]
theorem ZhC(s:List UInt8)(i:Nat): -1<=chk s i:=by
 induction i using chk.induct s with
 |case1 i h ih=>rw[Z2h h.1 h.2];exact ih
 |case2 i h hlt=>
  have:(Zb s i).2=0:=by
   apply Classical.byContradiction;intro hh;exact h ⟨hlt,hh⟩
  rw[Z5E hlt this];omega
 |case3 i h hlt=>rw[Z8w (by omega)];omega
theorem Z8x(c:Int):(c<128/\Z4f c=(1,c))\/((128<=c/\c<192\/248<=c)/\Z4f c=(0,0))\/((192<=c/\c<224)/\Z4f c=(2,c%32))\/((224<=c/\c<240)/\Z4f c=(3,c%16))\/((240<=c/\c<248)/\Z4f c=(4,c%8)):=by
 unfold Z4f
 (repeat' split)<;>simp<;>omega
theorem Z3o{p:Int->Bool}(h:(List.range 256).all (fun n=>p (n:Int))=true){c:Int}(h0:0<=c/\c<256):p c=true:=by
 have:=List.all_eq_true.1 h c.toNat (List.mem_range.2 (by omega));rwa [show((c.toNat:Nat):Int)=c by omega]at this
theorem ZhD{c:Int}(h:0<=c/\c<256):iAnd .u8 c 31=c%32:=by
 have:=Z3o (p:=fun n=>iAnd .u8 n 31==n%32) (by decide+kernel) h;simpa using this
theorem ZhE{c:Int}(h:0<=c/\c<256):iAnd .u8 c 15=c%16:=by
 have:=Z3o (p:=fun n=>iAnd .u8 n 15==n%16) (by decide+kernel) h;simpa using this
theorem and7{c:Int}(h:0<=c/\c<256):iAnd .u8 c 7=c%8:=by
 have:=Z3o (p:=fun n=>iAnd .u8 n 7==n%8) (by decide+kernel) h;simpa using this
theorem Zit{c:Int}(h:0<=c/\c<256):iAnd .u8 c 63=c%64:=by
 have:=Z3o (p:=fun n=>iAnd .u8 n 63==n%64) (by decide+kernel) h;simpa using this
theorem ZhF{c:Int}(h:0<=c/\c<256):iAnd .u8 c 192=c/64*64:=by
 have:=Z3o (p:=fun n=>iAnd .u8 n 192==n/64*64) (by decide+kernel) h;simpa using this
theorem Z70(w n:Nat):(BitVec.ofInt w (n:Int)).toNat=n%2^w:=by
 rw[BitVec.toNat_ofInt];norm_cast
theorem ZhG{k:IntKind}{a b i:Nat}(hb:b<2^i)(h:a*2^i+b<2^k.bits):iOr k ((a*2^i:Nat):Int) (b:Int)=k.wrap ((a*2^i+b:Nat):Int):=by
 unfold iOr
 have h1:(BitVec.ofInt k.bits ((a*2^i:Nat):Int)|||BitVec.ofInt k.bits (b:Int)).toNat=a*2^i+b:=by
  rw[BitVec.toNat_or,Z70,Z70,Nat.mod_eq_of_lt (by omega),Nat.mod_eq_of_lt (by omega)];rw[<-Nat.shiftLeft_eq,Nat.shiftLeft_add_eq_or_of_lt hb]
 rw[h1]
theorem or6{x c:Int}(hx:0<=x/\x<16777216)(hc:0<=c/\c<256):iOr .i32 (iShl .i32 x 6) (IntKind.i32.wrap (iAnd .u8 c 63))=x*64+c%64:=by
 rw[Zit hc,Zo (by omega) (by omega)]
 have h1:iShl .i32 x 6=((x.toNat*2^6:Nat):Int):=by
  unfold iShl;rw[show(min (Int.toNat 6) (IntKind.i32.bits))=6 by decide,show x*2^6=x*64 by rfl,Zo (by omega) (by omega)];omega
 have h2:c%64=(((c%64).toNat:Nat):Int):=by omega
 rw[h1,h2,ZhG (by omega) (by show _<2^32;omega),Zo (by omega) (by omega)];omega
structure Tm where
 k:Int
 t:List UInt8
 y:List UInt8
 l:List UInt8
 deriving DecidableEq
structure Qd where
 s:Tm
 p:Tm
 o:Tm
 g:Tm
 deriving DecidableEq
abbrev TmSm(x:Tm):Prop:=Sm x.t/\Sm x.y/\Sm x.l
abbrev QdSm(q:Qd):Prop:=TmSm q.s/\TmSm q.p/\TmSm q.o/\TmSm q.g
def Tm.sv(x:Tm):SV:= .agg [.int .i64 x.k, .str x.t, .str x.y, .str x.l]
def Qd.sv(q:Qd):SV:= .agg [.int .i64 q.s.k, .str q.s.t, .str q.s.y, .str q.s.l, .int .i64 q.p.k, .str q.p.t, .str q.p.y, .str q.p.l, .int .i64 q.o.k, .str q.o.t, .str q.o.y, .str q.o.l, .int .i64 q.g.k, .str q.g.t, .str q.g.y, .str q.g.l]
def ZE:Tm:=⟨0,[],[],[]⟩
end Go.Our
namespace Go.Sx
open Go
def subK(σ:Nat->Nat)(fr:Fr):Fr->Prop
 | []=>True
 |(t,v)::r=>match lkp t fr with
  |some u=>u=ren σ v/\subK σ fr r
  |none=>False
def Zcz(σ:Nat->Nat)(O:Hps):Hps->Prop
 | []=>True
 |(i,h)::r=>match lkp (σ i) O with
  |some g=>g=renH σ h/\Zcz σ O r
  |none=>False
theorem ZcA{σ:Nat->Nat}{m:Nat}{fr:Fr}:∀{fr':Fr},subK σ fr fr'->Uf m fr'=true->SubFr σ m fr fr'
 | [],_,_=>trivial
 |(t,v)::r,h,b=>by
  simp only[subK]at h;simp only[Uf,Bool.and_eq_true]at b;split at h
  ·rename_i u hu;obtain⟨rfl,h⟩:=h;exact⟨⟨hu,b.1⟩,ZcA h b.2⟩
  ·exact h.elim
theorem ZcB{σ:Nat->Nat}{m:Nat}{O:Hps}:∀{O':Hps},Zcz σ O O'->Zl m O'=true->SubO σ m O O'
 | [],_,_=>trivial
 |(t,v)::r,h,b=>by
  simp only[Zcz]at h;simp only[Zl,Bool.and_eq_true]at b;split at h
  ·rename_i u hu;obtain⟨rfl,h⟩:=h;exact⟨⟨b.1,hu,b.2.1⟩,ZcB h b.2.2⟩
  ·exact h.elim
theorem GOES.keeping{M:Mx}{fr:Fr}{O:Hps}{nx k:Nat}{fr':Fr}{O':Hps}(hk:M.η0.length=k)(τ:List Nat)(hτ:τ.all (fun i=>Nat.blt i nx)=true)
 (hn:(Za O').all (fun j=>(Za O').all fun j'=>!(Nat.beq (YM k τ j) (YM k τ j'))||Nat.beq j j')=true)
 (hbf:Uf (k+τ.length) fr'=true) (hbo:Zl (k+τ.length) O'=true) (hf:subK (YM k τ) fr fr') (hO:Zcz (YM k τ) O O') (hd:Z1H fr fr'=true:=by rfl) (hro:Z1I M.C.ro (YM k τ) (k+τ.length)=true:=by rfl):GOES M fr O nx fr' O' (k+τ.length):=
 GOES.keep hk τ hτ (ZcA hf hbf) (ZcB hO hbo) hn hd hro
theorem X6{b b':Blk}{r es n n':Nat}{lim:Option Nat}(hb:b=b')(hn:n=n'):SV.sl b r es n lim=SV.sl b' r es n' lim:=by rw[hb,hn]
theorem Zp{es:Nat}{rs rs':List (List SV)}{σ:Nat->Nat}(hp:Zh rs'=true)(h:rs=rs'):Hp.rows es rs=renH σ (.rows es rs'):=by rw[Zw σ (h:= .rows es rs') hp,h]
theorem FIN.rowsT{M:Mx}{O:Hps}{nx k:Nat}{r:SV}{Q:SV->Hps->Nat->Prop}(hk:M.η0.length=k)(i es len:Nat){rs:List (List SV)}{vs:List SV}(hr:r= .tup (.sl (.loc i) 0 es len none::vs))(hO:lkp i O=some (.rows es rs))(hi:Nat.blt i nx=true)(hp:Zh rs=true)(hv:YK vs=true)
 (hQ:Q (.tup (.sl (.loc k) 0 es len none::vs)) [(k, .rows es rs)] (k+1)):FIN M O nx r Q:=by
 have hi:i<nx:=by simpa[Nat.blt_eq]using hi
 have hf:YM k [i] k=i:=by simp[YM]
 refine FIN.keep hk [i] (rc:= .tup (.sl (.loc k) 0 es len none::vs)) (Oc:=[(k, .rows es rs)]) (fun j hj=>by simp at hj;omega) (by rw[hr];simp only[ren,renL,renB,hf,ZI _ hv]) (by simp[ZQ,ZM,WD,Nat.blt_eq,Zy _ hv]) ?_ ?_ hQ
 ·intro p hp';simp only[List.mem_singleton]at hp';subst hp';refine⟨by simp,?_,by simp only[Zg,Z2 _ hp]⟩;simp only[renH,hf,Zf _ hp,hO]
 ·intro j hj j' hj' _;simp[Za]at hj hj';omega
theorem Does.mono{P:Program}{T:Tab}{f:FuncId}{k:Nat}{args:List SV}{O S:Hps}{Q Q':SV->Hps->Nat->Prop}(h:Does P T f k args O S Q)(hq:∀r O nx,Q r O nx->Q' r O nx):Does P T f k args O S Q':=
 ⟨fun M vs h1 h2 h3 h4 h5 h6=>(h.out M vs h1 h2 h3 h4 h5 h6).mono fun v w' ⟨r,O',nx',η',a,b⟩=>⟨r,O',nx',η',hq _ _ _ a,b⟩⟩
def NewT(es:Nat)(rs:List (List SV))(vs:List SV):SV->Hps->Nat->Prop:=fun r O nx=>r= .tup (.sl (.loc 0) 0 es rs.length none::vs)/\O=[(0, .rows es rs)]/\nx=1
theorem CALL.newT{M:Mx}{O:Hps}{nx:Nat}{f:FuncId}{args:List SV}{K:SV->Hps->Nat->Prop}{es:Nat}{rs:List (List SV)}{vs:List SV}(sp:Does M.P M.C.T f 0 args [] [] (NewT es rs vs))(hp:YK args=true)(hrs:Zh rs=true)(hvs:YK vs=true)
 (hK:K (.tup (.sl (.loc nx) 0 es rs.length none::vs)) ((nx, .rows es rs)::O) (nx+1)):CALL M f args O nx K:=by
 refine CALL.of [] sp rfl (fun i hi=>by cases hi) (ZI _ hp).symm (Zy 0 hp) (fun p hp=>by cases hp) (fun j hj=>by cases hj) (fun p hp=>by cases hp) ?_;rintro r' O' nx' ⟨rfl,rfl,rfl⟩;simp only[ren,renL,renB,renO,renH,Zf _ hrs,ZI _ hvs,Z5C (L:=[]) (nx:=nx) (k:=0) rfl,Za,List.map_nil,Jg,List.cons_append,List.nil_append];exact hK
def NewS(es:Nat)(rs:List (List SV)):SV->Hps->Nat->Prop:=fun r O nx=>r= .sl (.loc 0) 0 es rs.length none/\O=[(0, .rows es rs)]/\nx=1
theorem CALL.newS{M:Mx}{O:Hps}{nx:Nat}{f:FuncId}{args:List SV}{K:SV->Hps->Nat->Prop}{es:Nat}{rs:List (List SV)}(sp:Does M.P M.C.T f 0 args [] [] (NewS es rs))(hp:YK args=true)(hrs:Zh rs=true)
 (hK:K (.sl (.loc nx) 0 es rs.length none) ((nx, .rows es rs)::O) (nx+1)):CALL M f args O nx K:=by
 refine CALL.of [] sp rfl (fun i hi=>by cases hi) (ZI _ hp).symm (Zy 0 hp) (fun p hp=>by cases hp) (fun j hj=>by cases hj) (fun p hp=>by cases hp) ?_;rintro r' O' nx' ⟨rfl,rfl,rfl⟩;simp only[ren,renB,renO,renH,Zf _ hrs,Z5C (L:=[]) (nx:=nx) (k:=0) rfl,Za,List.map_nil,Jg,List.cons_append,List.nil_append];exact hK
end Go.Sx
namespace Go.Our
open Go.Sx
def encI(r:Int):List Int:=
 if r<128 then [r]else if r<2048 then [192+r/64,128+r%64]else if r<65536 then [224+r/4096,128+r/64%64,128+r%64]
 else [240+r/262144,128+r/4096%64,128+r/64%64,128+r%64]
def Z0z(x:Int):UInt8:=UInt8.ofNat x.toNat
def encM(r:Int):List UInt8:=(encI r).map Z0z
def rawM:List UInt8->Int
 | [a]=>bn a
 | [a,b]=>(bn a-192)*64+bn b-128
 | [a,b,c]=>((bn a-224)*64+bn b-128)*64+bn c-128
 | [a,b,c,d]=>(((bn a-240)*64+bn b-128)*64+bn c-128)*64+bn d-128
 |_=> -1
def Y9(l:List UInt8):Int:=if Yq (rawM l)/\encM (rawM l)=l then rawM l else-1
theorem Ziw{a b:Int}(h:0<=a):a.tdiv b=a/b:=Int.tdiv_eq_ediv_of_nonneg h
theorem Zix{a b:Int}(h:0<=a):a.tmod b=a%b:=Int.tmod_eq_emod_of_nonneg h
theorem ZfL{a:Int}(h1:0<=a)(h2:a<=255):IntKind.u8.wrap a=a:=IntWalk.u8_in _ ⟨h1,h2⟩
theorem Z3C{x:Int}(h:0<=x/\x<256):((Z0z x).toNat:Int)=x:=by
 unfold Z0z;rw[UInt8.toNat_ofNat_of_lt' (by show x.toNat<256;omega)];omega
theorem Z8N{x:Int}(h:0<=x/\x<256):[SV.int .u8 x]=Sx.bytesRow (Z0z x):=by
 unfold Sx.bytesRow;rw[Z3C h]
theorem Zd6(a:UInt8):Z0z (bn a)=a:=by unfold Z0z bn;simp
theorem Zd7{r:Int}(h:0<=r/\r<=1114111):∀x∈encI r,0<=x/\x<256:=by
 unfold encI
 (repeat' split)<;>simp<;>omega
theorem Z50:∀{l:List Int},(∀x∈l,0<=x/\x<256)->(l.map Z0z).map bn=l
 | [],_=>rfl
 |x::l,h=>by
  simp only[List.map_cons];rw[Z50 (fun y hy=>h y (List.mem_cons_of_mem _ hy))];unfold bn;rw[Z3C (h x (List.mem_cons_self ..))]
theorem ZfM:∀l:List UInt8,(l.map bn).map Z0z=l
 | []=>rfl
 |x::l=>by simp only[List.map_cons,Zd6,ZfM l]
theorem Z9Z{r:Int}(h:0<=r/\r<=1114111)(l:List UInt8):encM r=l<->encI r=l.map bn:=by
 unfold encM;constructor
 ·rintro rfl;rw[Z50 (Zd7 h)]
 ·intro e;rw[e,ZfM]
theorem Wn{l:List UInt8}(h:Yq (rawM l))(e:encI (rawM l)=l.map bn):Y9 l=rawM l:=by
 unfold Y9;exact if_pos ⟨h,(Z9Z ⟨h.1,h.2.1⟩ l).2 e⟩
theorem Wo{l:List UInt8}(h:Yq (rawM l)->encI (rawM l)=l.map bn->False):Y9 l= -1:=by
 unfold Y9;exact if_neg fun⟨h1,h2⟩=>h h1 ((Z9Z ⟨h1.1,h1.2.1⟩ l).1 h2)
theorem ZhP(a:UInt8):Y9 [a]=if bn a<128 then bn a else-1:=by
 have ha:=Z3n a;have hw:rawM [a]=bn a:=rfl;by_cases h:bn a<128
 ·rw[if_pos h,Wn]
  ·omega
  ·unfold Yq;omega
  ·rw[hw];unfold encI;simp(disch:=omega) only[↓if_pos,↓if_neg,List.map_cons,List.map_nil,List.cons.injEq,and_true];try omega
 ·rw[if_neg h,Wo];intro h1 h2;unfold Yq at h1;rw[hw]at h2;unfold encI at h2;apply h
  (repeat'(split at h2))<;>simp at h2<;>omega
theorem ZhQ(a b:UInt8):Y9 [a,b]=if(192<=bn a/\bn a<224)/\(128<=bn b/\bn b<192)/\128<=r2 (bn a) (bn b)then r2 (bn a) (bn b)else-1:=by
 have ha:=Z3n a;have hb:=Z3n b;have hw:rawM [a,b]=(bn a-192)*64+bn b-128:=rfl;have hr:r2 (bn a) (bn b)=bn a%32*64+bn b%64:=rfl;by_cases h:(192<=bn a/\bn a<224)/\(128<=bn b/\bn b<192)/\128<=r2 (bn a) (bn b)
 ·rw[if_pos h,Wn]
  ·omega
  ·unfold Yq;omega
  ·rw[hw];unfold encI;simp(disch:=omega) only[↓if_pos,↓if_neg,List.map_cons,List.map_nil,List.cons.injEq,and_true];try omega
 ·rw[if_neg h,Wo];intro h1 h2;unfold Yq at h1;rw[hw]at h2;unfold encI at h2;apply h
  (repeat'(split at h2))<;>simp at h2<;>omega
theorem ZhR(a b c:UInt8):Y9 [a,b,c]=if(224<=bn a/\bn a<240)/\(128<=bn b/\bn b<192)/\(128<=bn c/\bn c<192)/\2048<=r3 (bn a) (bn b) (bn c)/\(r3 (bn a) (bn b) (bn c)<55296\/57343<r3 (bn a) (bn b) (bn c))then r3 (bn a) (bn b) (bn c)else-1:=by
 have ha:=Z3n a;have hb:=Z3n b;have hc:=Z3n c;have hw:rawM [a,b,c]=((bn a-224)*64+bn b-128)*64+bn c-128:=rfl;have hr:r3 (bn a) (bn b) (bn c)=(bn a%16*64+bn b%64)*64+bn c%64:=rfl;by_cases h:(224<=bn a/\bn a<240)/\(128<=bn b/\bn b<192)/\(128<=bn c/\bn c<192)/\2048<=r3 (bn a) (bn b) (bn c)/\(r3 (bn a) (bn b) (bn c)<55296\/57343<r3 (bn a) (bn b) (bn c))
 ·rw[if_pos h,Wn]
  ·omega
  ·unfold Yq;omega
  ·rw[hw];unfold encI;simp(disch:=omega) only[↓if_pos,↓if_neg,List.map_cons,List.map_nil,List.cons.injEq,and_true];try omega
 ·rw[if_neg h,Wo];intro h1 h2;unfold Yq at h1;rw[hw]at h2;unfold encI at h2;apply h
  (repeat'(split at h2))<;>simp at h2<;>omega
theorem ZhS(a b c d:UInt8):Y9 [a,b,c,d]=if(240<=bn a/\bn a<248)/\(128<=bn b/\bn b<192)/\(128<=bn c/\bn c<192)/\(128<=bn d/\bn d<192)/\65536<=r4 (bn a) (bn b) (bn c) (bn d)/\r4 (bn a) (bn b) (bn c) (bn d)<=1114111 then r4 (bn a) (bn b) (bn c) (bn d)else-1:=by
 have ha:=Z3n a;have hb:=Z3n b;have hc:=Z3n c;have hd:=Z3n d;have hw:rawM [a,b,c,d]=(((bn a-240)*64+bn b-128)*64+bn c-128)*64+bn d-128:=rfl;have hr:r4 (bn a) (bn b) (bn c) (bn d)=((bn a%8*64+bn b%64)*64+bn c%64)*64+bn d%64:=rfl;by_cases h:(240<=bn a/\bn a<248)/\(128<=bn b/\bn b<192)/\(128<=bn c/\bn c<192)/\(128<=bn d/\bn d<192)/\65536<=r4 (bn a) (bn b) (bn c) (bn d)/\r4 (bn a) (bn b) (bn c) (bn d)<=1114111
 ·rw[if_pos h,Wn]
  ·omega
  ·unfold Yq;omega
  ·rw[hw];unfold encI;simp(disch:=omega) only[↓if_pos,↓if_neg,List.map_cons,List.map_nil,List.cons.injEq,and_true];try omega
 ·rw[if_neg h,Wo];intro h1 h2;unfold Yq at h1;rw[hw]at h2;unfold encI at h2;apply h
  (repeat'(split at h2))<;>simp at h2<;>omega
theorem Xi{s:List UInt8}{n:Nat}(h:n<s.length):s.drop n=s.getD n 0::s.drop (n+1):=by
 rw[List.drop_eq_getElem_cons h];simp[List.getD,h]
theorem XA(s:List UInt8)(i:Int)(k:Nat)(hi:0<=i):bn (s.getD (i.toNat+k) 0)=Z1 s (i+k):=by
 unfold Z1 bn;rw[show(i+(k:Int)).toNat=i.toNat+k by omega]
section
variable {s:List UInt8}{i:Int}
theorem Zgx(h:0<=i/\i+1<=s.length):Y9 ((s.drop i.toNat).take ((i+1).toNat-i.toNat))=if Z1 s i<128 then Z1 s i else-1:=by
 rw[show(i+1).toNat-i.toNat=1 by omega,Xi (by omega)];simp only[List.take_succ_cons,List.take_zero,ZhP];have e0:=XA s i 0 h.1;simp only[Nat.add_zero,Int.natCast_zero,Int.add_zero]at e0;rw[e0]
theorem Zgy(h:0<=i/\i+2<=s.length):Y9 ((s.drop i.toNat).take ((i+2).toNat-i.toNat))=if(192<=Z1 s i/\Z1 s i<224)/\(128<=Z1 s (i+1)/\Z1 s (i+1)<192)/\128<=r2 (Z1 s i) (Z1 s (i+1))then r2 (Z1 s i) (Z1 s (i+1))else-1:=by
 rw[show(i+2).toNat-i.toNat=2 by omega,Xi (by omega),Xi (n:=i.toNat+1) (by omega)];simp only[List.take_succ_cons,List.take_zero,ZhQ];have e0:=XA s i 0 h.1;have e1:bn (s.getD (i.toNat+1) 0)=Z1 s (i+1):=XA s i 1 h.1;simp only[Nat.add_zero,Int.natCast_zero,Int.add_zero]at e0;rw[e0,e1]
theorem Zgz(h:0<=i/\i+3<=s.length):Y9 ((s.drop i.toNat).take ((i+3).toNat-i.toNat))=if(224<=Z1 s i/\Z1 s i<240)/\(128<=Z1 s (i+1)/\Z1 s (i+1)<192)/\(128<=Z1 s (i+2)/\Z1 s (i+2)<192)/\2048<=r3 (Z1 s i) (Z1 s (i+1)) (Z1 s (i+2))/\(r3 (Z1 s i) (Z1 s (i+1)) (Z1 s (i+2))<55296\/57343<r3 (Z1 s i) (Z1 s (i+1)) (Z1 s (i+2)))then r3 (Z1 s i) (Z1 s (i+1)) (Z1 s (i+2))else-1:=by
 rw[show(i+3).toNat-i.toNat=3 by omega,Xi (by omega),Xi (n:=i.toNat+1) (by omega),Xi (n:=i.toNat+1+1) (by omega)];simp only[List.take_succ_cons,List.take_zero,ZhR];have e0:=XA s i 0 h.1;have e1:bn (s.getD (i.toNat+1) 0)=Z1 s (i+1):=XA s i 1 h.1;have e2:bn (s.getD (i.toNat+1+1) 0)=Z1 s (i+2):=XA s i 2 h.1;simp only[Nat.add_zero,Int.natCast_zero,Int.add_zero]at e0;rw[e0,e1,e2]
theorem ZgA(h:0<=i/\i+4<=s.length):Y9 ((s.drop i.toNat).take ((i+4).toNat-i.toNat))=if(240<=Z1 s i/\Z1 s i<248)/\(128<=Z1 s (i+1)/\Z1 s (i+1)<192)/\(128<=Z1 s (i+2)/\Z1 s (i+2)<192)/\(128<=Z1 s (i+3)/\Z1 s (i+3)<192)/\65536<=r4 (Z1 s i) (Z1 s (i+1)) (Z1 s (i+2)) (Z1 s (i+3))/\r4 (Z1 s i) (Z1 s (i+1)) (Z1 s (i+2)) (Z1 s (i+3))<=1114111 then r4 (Z1 s i) (Z1 s (i+1)) (Z1 s (i+2)) (Z1 s (i+3))else-1:=by
 rw[show(i+4).toNat-i.toNat=4 by omega,Xi (by omega),Xi (n:=i.toNat+1) (by omega),Xi (n:=i.toNat+1+1) (by omega),Xi (n:=i.toNat+1+1+1) (by omega)];simp only[List.take_succ_cons,List.take_zero,ZhS];have e0:=XA s i 0 h.1;have e1:bn (s.getD (i.toNat+1) 0)=Z1 s (i+1):=XA s i 1 h.1;have e2:bn (s.getD (i.toNat+1+1) 0)=Z1 s (i+2):=XA s i 2 h.1;have e3:bn (s.getD (i.toNat+1+1+1) 0)=Z1 s (i+3):=XA s i 3 h.1;simp only[Nat.add_zero,Int.natCast_zero,Int.add_zero]at e0;rw[e0,e1,e2,e3]
theorem Z7u(h:0<=i/\i<s.length):Zb s i=if 0<=Y9 ((s.drop i.toNat).take ((i+1).toNat-i.toNat))then(Y9 ((s.drop i.toNat).take ((i+1).toNat-i.toNat)),1)else if 2<=s.length-i/\0<=Y9 ((s.drop i.toNat).take ((i+2).toNat-i.toNat))then(Y9 ((s.drop i.toNat).take ((i+2).toNat-i.toNat)),2)else if 3<=s.length-i/\0<=Y9 ((s.drop i.toNat).take ((i+3).toNat-i.toNat))then(Y9 ((s.drop i.toNat).take ((i+3).toNat-i.toNat)),3)else if 4<=s.length-i/\0<=Y9 ((s.drop i.toNat).take ((i+4).toNat-i.toNat))then(Y9 ((s.drop i.toNat).take ((i+4).toNat-i.toNat)),4)else(0,0):=by
 have e0:=ZG s i;have e1:=ZG s (i+1);have e2:=ZG s (i+2);have e3:=ZG s (i+3);have q2:r2 (Z1 s i) (Z1 s (i+1))=Z1 s i%32*64+Z1 s (i+1)%64:=rfl;have q3:r3 (Z1 s i) (Z1 s (i+1)) (Z1 s (i+2))=(Z1 s i%16*64+Z1 s (i+1)%64)*64+Z1 s (i+2)%64:=rfl;have q4:r4 (Z1 s i) (Z1 s (i+1)) (Z1 s (i+2)) (Z1 s (i+3))=((Z1 s i%8*64+Z1 s (i+1)%64)*64+Z1 s (i+2)%64)*64+Z1 s (i+3)%64:=rfl;have g1:=Zgx (s:=s) (i:=i) (by omega);have g2:=fun h2:i+2<=s.length=>Zgy (s:=s) (i:=i) ⟨h.1,h2⟩;have g3:=fun h3:i+3<=s.length=>Zgz (s:=s) (i:=i) ⟨h.1,h3⟩;have g4:=fun h4:i+4<=s.length=>ZgA (s:=s) (i:=i) ⟨h.1,h4⟩;generalize Y9 ((s.drop i.toNat).take ((i+1).toNat-i.toNat))=x1 at*;generalize Y9 ((s.drop i.toNat).take ((i+2).toNat-i.toNat))=x2 at*;generalize Y9 ((s.drop i.toNat).take ((i+3).toNat-i.toNat))=x3 at*;generalize Y9 ((s.drop i.toNat).take ((i+4).toNat-i.toNat))=x4 at*;unfold Zb decB;rw[if_neg (by omega)];generalize r2 (Z1 s i) (Z1 s (i+1))=y2 at*;generalize r3 (Z1 s i) (Z1 s (i+1)) (Z1 s (i+2))=y3 at*;generalize r4 (Z1 s i) (Z1 s (i+1)) (Z1 s (i+2)) (Z1 s (i+3))=y4 at*;generalize Z1 s i=a at*;generalize Z1 s (i+1)=b at*;generalize Z1 s (i+2)=c at*;generalize Z1 s (i+3)=d at*;by_cases c1:a<128
 ·rw[if_pos c1]at g1⊢;rw[if_pos (show 0<=x1 by omega),g1]
 rw[if_neg c1]at g1⊢;rw[if_neg (show ¬0<=x1 by omega)];have key:a<192\/(192<=a/\a<224)\/(224<=a/\a<240)\/(240<=a/\a<248)\/248<=a:=by omega
 rcases key with ha|ha|ha|ha|ha
 ·simp(disch:=omega) only[↓if_neg]at g2 g3 g4;simp(disch:=omega) only[↓if_pos,↓if_neg]
 ·by_cases hq:(128<=b/\b<192)/\128<=y2
  all_goals simp(disch:=omega) only[↓if_neg,↓if_pos]at g2 g3 g4
  all_goals by_cases hm:2<=(s.length:Int)-i
  all_goals simp(disch:=omega) only[↓if_pos,↓if_neg]
  rw[g2 (by omega)]
 ·by_cases hq:(128<=b/\b<192)/\(128<=c/\c<192)/\2048<=y3/\(y3<55296\/57343<y3)
  all_goals simp(disch:=omega) only[↓if_neg,↓if_pos]at g2 g3 g4
  all_goals by_cases hm:3<=(s.length:Int)-i
  all_goals simp(disch:=omega) only[↓if_pos,↓if_neg]
  rw[g3 (by omega)]
 ·by_cases hq:(128<=b/\b<192)/\(128<=c/\c<192)/\(128<=d/\d<192)/\65536<=y4/\y4<=1114111
  all_goals simp(disch:=omega) only[↓if_neg,↓if_pos]at g2 g3 g4
  all_goals by_cases hm:4<=(s.length:Int)-i
  all_goals simp(disch:=omega) only[↓if_pos,↓if_neg]
  rw[g4 (by omega)]
 ·simp(disch:=omega) only[↓if_neg]at g2 g3 g4;simp(disch:=omega) only[↓if_pos,↓if_neg]
end
abbrev deco(s:List UInt8)(i:Nat):Nat×Nat:=Utf8.decode ⟨s.toArray⟩ i
theorem ZeL(s:List UInt8)(j:Nat):((ByteArray.mk s.toArray).get! j).toNat=(s.getD j 0).toNat:=by
 unfold ByteArray.get!;simp[List.getD,Array.getElem!_eq_getD]
 rfl
def decN(m b0 b1 b2 b3:Nat):Nat×Nat:=
 if b0<128 then(b0,1)
 else if b0/32=6/\1<m/\b1/64=2 then if 128<=b0%32*64+b1%64 then(b0%32*64+b1%64,2)else(65533,1)
 else if b0/16=14/\(1<m/\b1/64=2)/\(2<m/\b2/64=2)then
  if 2048<=b0%16*4096+b1%64*64+b2%64/\(b0%16*4096+b1%64*64+b2%64<55296\/57344<=b0%16*4096+b1%64*64+b2%64)then(b0%16*4096+b1%64*64+b2%64,3)else(65533,1)
 else if b0/8=30/\(1<m/\b1/64=2)/\(2<m/\b2/64=2)/\(3<m/\b3/64=2)then
  if 65536<=b0%8*262144+b1%64*4096+b2%64*64+b3%64/\b0%8*262144+b1%64*4096+b2%64*64+b3%64<=1114111 then(b0%8*262144+b1%64*4096+b2%64*64+b3%64,4)else(65533,1)
 else(65533,1)
theorem VY(s:List UInt8)(i:Nat):deco s i=decN (s.length-i) (s.getD i 0).toNat (s.getD (i+1) 0).toNat (s.getD (i+2) 0).toNat (s.getD (i+3) 0).toNat:=by
 unfold deco Utf8.decode decN;simp only[ZeL,Nat.add_zero];have hsz:(ByteArray.mk s.toArray).size=s.length:=by simp[ByteArray.size]
 rw[hsz];generalize(s.getD i 0).toNat=b0;generalize(s.getD (i+1) 0).toNat=b1;generalize(s.getD (i+2) 0).toNat=b2;generalize(s.getD (i+3) 0).toNat=b3;have e:∀k,(i+k<s.length)=(k<s.length-i):=fun k=>by simp;omega
 simp only[Bool.and_eq_true,beq_iff_eq,decide_eq_true_eq,e,Utf8.valid,Utf8.runeError,Bool.or_eq_true,ge_iff_le];by_cases c1:b0<128
 ·simp[c1]
 by_cases c2:b0/32=6/\1<s.length-i/\b1/64=2
 ·simp[c1,c2]
 by_cases c3:b0/16=14/\(1<s.length-i/\b1/64=2)/\(2<s.length-i/\b2/64=2)
 ·have c3':(b0/16=14/\(1<s.length-i/\b1/64=2))/\(2<s.length-i/\b2/64=2):=⟨⟨c3.1,c3.2.1⟩,c3.2.2⟩;rw[if_neg c1,if_neg c2,if_pos c3',if_neg c1,if_neg c2,if_pos c3];congr 1;simp;omega
 by_cases c4:b0/8=30/\(1<s.length-i/\b1/64=2)/\(2<s.length-i/\b2/64=2)/\(3<s.length-i/\b3/64=2)
 ·have c4':((b0/8=30/\(1<s.length-i/\b1/64=2))/\(2<s.length-i/\b2/64=2))/\(3<s.length-i/\b3/64=2):=⟨⟨⟨c4.1,c4.2.1⟩,c4.2.2.1⟩,c4.2.2.2⟩;have c3':¬((b0/16=14/\(1<s.length-i/\b1/64=2))/\(2<s.length-i/\b2/64=2)):=fun h=>c3 ⟨h.1.1,h.1.2,h.2⟩;rw[if_neg c1,if_neg c2,if_neg c3',if_pos c4',if_neg c1,if_neg c2,if_neg c3,if_pos c4];congr 1;simp;omega
 ·have c4':¬(((b0/8=30/\(1<s.length-i/\b1/64=2))/\(2<s.length-i/\b2/64=2))/\(3<s.length-i/\b3/64=2)):=fun h=>c4 ⟨h.1.1.1,h.1.1.2,h.1.2,h.2⟩;have c3':¬((b0/16=14/\(1<s.length-i/\b1/64=2))/\(2<s.length-i/\b2/64=2)):=fun h=>c3 ⟨h.1.1,h.1.2,h.2⟩;rw[if_neg c1,if_neg c2,if_neg c3',if_neg c4',if_neg c1,if_neg c2,if_neg c3,if_neg c4]
theorem Z2q(s:List UInt8)(i:Nat):1<=(deco s i).2:=by
 rw[VY];unfold decN
 (repeat' split)<;>simp
theorem Z3D(s:List UInt8)(i:Nat)(h:i<s.length):i+(deco s i).2<=s.length:=by
 rw[VY];unfold decN
 (repeat' split)<;>simp<;>omega
theorem Z8O(s:List UInt8)(i:Nat):Yq ((deco s i).1:Int):=by
 have h:=(s.getD i 0).toNat_lt;rw[VY];unfold decN Yq;generalize(s.getD i 0).toNat=b0 at*;generalize(s.getD (i+1) 0).toNat=b1 at*;generalize(s.getD (i+2) 0).toNat=b2 at*;generalize(s.getD (i+3) 0).toNat=b3 at*
 (repeat' split)<;>simp<;>omega
theorem Wp{s:List UInt8}{i:Nat}(h:Z1 s i<128):deco s i=((Z1 s i).toNat,1):=by
 have e:Z1 s i=((s.getD i 0).toNat:Int):=rfl;rw[VY];unfold decN;rw[e]at h⊢;clear e;generalize(s.getD i 0).toNat=b0 at*;generalize(s.getD (i+1) 0).toNat=b1 at*;generalize(s.getD (i+2) 0).toNat=b2 at*;generalize(s.getD (i+3) 0).toNat=b3 at*;rw[if_pos (by omega)];simp
theorem Z3E{s:List UInt8}{i:Nat}(h:128<=Z1 s i):128<=(deco s i).1:=by
 have e:Z1 s i=((s.getD i 0).toNat:Int):=rfl;have l0:=(s.getD i 0).toNat_lt;rw[VY];unfold decN;rw[e]at h;clear e;generalize(s.getD i 0).toNat=b0 at*;generalize(s.getD (i+1) 0).toNat=b1 at*;generalize(s.getD (i+2) 0).toNat=b2 at*;generalize(s.getD (i+3) 0).toNat=b3 at*
 (repeat' split)<;>simp<;>omega
theorem Zd8{s:List UInt8}{i:Nat}(hi:i<s.length)(h:(Zb s i).2≠0):((deco s i).1:Int)=(Zb s i).1/\((deco s i).2:Int)=(Zb s i).2:=by
 have l0:=(s.getD i 0).toNat_lt;have l1:=(s.getD (i+1) 0).toNat_lt;have l2:=(s.getD (i+2) 0).toNat_lt;have l3:=(s.getD (i+3) 0).toNat_lt;have e0:Z1 s i=((s.getD i 0).toNat:Int):=rfl;have e1:Z1 s ((i:Int)+1)=((s.getD (i+1) 0).toNat:Int):=rfl;have e2:Z1 s ((i:Int)+2)=((s.getD (i+2) 0).toNat:Int):=rfl;have e3:Z1 s ((i:Int)+3)=((s.getD (i+3) 0).toNat:Int):=rfl;rw[VY];unfold Zb decB r2 r3 r4 at h⊢;rw[if_neg (show ¬((i:Int)<0\/(s.length:Int)<=i)by omega)]at h⊢;simp only[e0,e1,e2,e3]at h⊢;clear e0 e1 e2 e3;unfold decN;generalize(s.getD i 0).toNat=b0 at*;generalize(s.getD (i+1) 0).toNat=b1 at*;generalize(s.getD (i+2) 0).toNat=b2 at*;generalize(s.getD (i+3) 0).toNat=b3 at*;rcases(by omega:(b0:Int)<128\/(128<=(b0:Int)/\(b0:Int)<192)\/(192<=(b0:Int)/\(b0:Int)<224)\/(224<=(b0:Int)/\(b0:Int)<240)\/(240<=(b0:Int)/\(b0:Int)<248)\/248<=(b0:Int))with ha|ha|ha|ha|ha|ha
 ·simp(disch:=omega) only[↓if_pos,↓if_neg];simp
 ·simp(disch:=omega) only[↓if_pos,↓if_neg]at h;simp at h
 ·simp(disch:=omega) only[↓if_neg,↓if_pos]at h⊢;split at h
  ·rename_i hc;simp(disch:=omega) only[↓if_neg,↓if_pos];simp<;>omega
  ·simp at h
 ·simp(disch:=omega) only[↓if_neg,↓if_pos]at h⊢;split at h
  ·rename_i hc;simp(disch:=omega) only[↓if_neg,↓if_pos];simp<;>omega
  ·simp at h
 ·simp(disch:=omega) only[↓if_neg,↓if_pos]at h⊢;split at h
  ·rename_i hc;simp(disch:=omega) only[↓if_neg,↓if_pos];simp<;>omega
  ·simp at h
 ·simp(disch:=omega) only[↓if_pos,↓if_neg]at h;simp at h
theorem Zd9{r:Int}(h:Yq r):(Utf8.encode r).data.toList=encM r:=by
 unfold Yq at h;have hv:Utf8.valid r=true:=by simp[Utf8.valid];omega
 obtain⟨n,rfl⟩:∃n:Nat,r=n:=⟨r.toNat,by omega⟩;unfold Utf8.encode encM encI Z0z;simp only[hv,if_true,Int.toNat_natCast];rcases(by omega:n<128\/(128<=n/\n<2048)\/(2048<=n/\n<65536)\/65536<=n)with c|c|c|c
 all_goals simp(disch:=omega) only[↓if_pos,↓if_neg,List.map_cons,List.map_nil]
 all_goals
  simp only[List.cons.injEq,and_true]
  (repeat'(first|rfl|refine⟨?_,?_⟩))<;>congr 1<;>omega
theorem ZeM{r:Int}(h:128<=r):2<=(encM r).length/\(encM r).length<=4:=by
 unfold encM encI
 (repeat' split)<;>simp<;>omega
theorem Zda{r:Int}(hs:Yq r)(h:128<=r):∀c∈encM r,128<=bn c:=by
 have hl:=Zd7 ⟨hs.1,hs.2.1⟩;intro c hc;unfold encM at hc;obtain⟨x,hx,rfl⟩:=List.mem_map.1 hc;have:=hl x hx;unfold bn;rw[Z3C this];unfold Yq at hs;unfold encI at hx
 (repeat'(split at hx))<;>simp at hx<;>omega
def Barred(c:Int):Prop:=c<=32\/c=60\/c=62\/c=34\/c=123\/c=125\/c=124\/c=94\/c=96\/c=92
instance (c:Int):Decidable (Barred c):=by unfold Barred;infer_instance
def VH(c:Int):Bool:=decide (Barred c)
theorem Z1S{c:Int}:VH c=true<->Barred c:=decide_eq_true_iff
theorem Z5T{c:Int}:VH c=false<->¬Barred c:=decide_eq_false_iff_not
def bars:List UInt8:=[60,62,34,123,125,124,94,96,92]
def idxF(p:Int->Bool)(s:List UInt8)(i:Nat):Int:=
 if h:i<s.length then if p ((deco s i).1:Int)then i else idxF p s (i+(deco s i).2)else-1
termination_by s.length-i
decreasing_by have:=Z2q s i;omega
theorem Za0{p:Int->Bool}{s:List UInt8}{i:Nat}(h:s.length<=i):idxF p s i= -1:=by rw[idxF,dif_neg (by omega)]
theorem Zdb{p:Int->Bool}{s:List UInt8}{i:Nat}(h:i<s.length)(hp:p ((deco s i).1:Int)=true):idxF p s i=i:=by rw[idxF,dif_pos h,if_pos hp]
theorem Z3F{p:Int->Bool}{s:List UInt8}{i:Nat}(h:i<s.length)(hp:p ((deco s i).1:Int)=false):idxF p s i=idxF p s (i+(deco s i).2):=by
 conv=>lhs;rw[idxF]
 rw[dif_pos h,if_neg (by simp[hp])]
def anyB(p:Int->Bool)(s:List UInt8)(i:Nat):Bool:=
 if h:i<s.length then p (Z1 s i)||anyB p s (i+1)else false
termination_by s.length-i
theorem Z5U{p:Int->Bool}{s:List UInt8}{i:Nat}(h:s.length<=i):anyB p s i=false:=by rw[anyB,dif_neg (by omega)]
theorem Z3G{p:Int->Bool}{s:List UInt8}{i:Nat}(h:i<s.length):anyB p s i=(p (Z1 s i)||anyB p s (i+1)):=by
 conv=>lhs;rw[anyB]
 rw[dif_pos h]
theorem Zdc{p:Int->Bool}{s:List UInt8}{i n:Nat}(h:i+n<=s.length)(hp:∀k:Nat,k<n->p (Z1 s (i+k:Nat))=false):anyB p s i=anyB p s (i+n):=by
 induction n with
 |zero=>rfl
 |succ n ih=>
  rw[ih (by omega) (fun k hk=>hp k (by omega)),Z3G (by omega),hp n (by omega),Bool.false_or];rfl
theorem Z8P{s:List UInt8}{i:Nat}(hi:i<s.length)(h:(Zb s i).2≠0)(h1:128<=Z1 s i):∀k:Nat,k< (Zb s i).2.toNat->128<=Z1 s (i+k:Nat):=by
 have e0:=ZG s i;have e1:=ZG s (i+1);have e2:=ZG s (i+2);have e3:=ZG s (i+3);unfold Zb decB at h⊢;rw[if_neg (show ¬((i:Int)<0\/(s.length:Int)<=i)by omega)]at h⊢;intro k hk
 have hb:(k=0/\Z1 s (i+k:Nat)=Z1 s i)\/(k=1/\Z1 s (i+k:Nat)=Z1 s (i+1))\/(k=2/\Z1 s (i+k:Nat)=Z1 s (i+2))\/(k=3/\Z1 s (i+k:Nat)=Z1 s (i+3))\/4<=k:=by
  rcases(by omega:k=0\/k=1\/k=2\/k=3\/4<=k)with rfl|rfl|rfl|rfl|h
  ·exact .inl ⟨rfl,rfl⟩
  ·exact .inr (.inl ⟨rfl,rfl⟩)
  ·exact .inr (.inr (.inl ⟨rfl,rfl⟩))
  ·exact .inr (.inr (.inr (.inl ⟨rfl,rfl⟩)))
  ·exact .inr (.inr (.inr (.inr h)))
 generalize Z1 s (i+k:Nat)=x at*;generalize Z1 s i=a at*;generalize Z1 s (i+1)=b at*;generalize Z1 s (i+2)=c at*;generalize Z1 s (i+3)=d at*;rw[if_neg (show ¬a<128 by omega)]at h hk
 (repeat'(split at hk))<;>simp at hk<;>omega
theorem Z7v(p:Int->Bool)(hp:∀c,128<=c->p c=false)(s:List UInt8)(i:Nat):chk s i= -1->(0<=idxF p s i<->anyB p s i=true):=by
 induction i using chk.induct s with
 |case1 i h ih=>
  intro hc;rw[Z2h h.1 h.2]at hc;have hn:=YX s i;have hd:=Zd8 h.1 h.2;have e0:=ZG s i;by_cases ha:Z1 s i<128
  ·have hd':=Wp ha;have h1:(Zb s i).2=1:=by rw[hd']at hd;simp at hd;omega
   rw[Z3G h.1];by_cases hb:p (Z1 s i)=true
   ·rw[Zdb h.1 (by rw[hd'];simp only;rw[show((Z1 s i).toNat:Int)=Z1 s i by omega];exact hb)];simp[hb]
   ·have hb:p (Z1 s i)=false:=by simpa using hb
    rw[Z3F h.1 (by rw[hd'];simp only;rw[show((Z1 s i).toNat:Int)=Z1 s i by omega];exact hb),hb,Bool.false_or];have:=ih hc;rw[h1]at this;rw[hd'];exact this
  ·have ha:128<=Z1 s i:=by omega
   rw[Z3F h.1 (hp _ (by have:=Z3E ha;omega))];rw[Zdc (n:=(Zb s i).2.toNat) (by omega) (fun k hk=>hp _ (Z8P h.1 h.2 ha k hk))];have:=ih hc;rw[show(deco s i).2=(Zb s i).2.toNat by omega];exact this
 |case2 i h hlt=>
  intro hc
  have:(Zb s i).2=0:=by
   apply Classical.byContradiction;intro hh;exact h ⟨hlt,hh⟩
  rw[Z5E hlt this]at hc;omega
 |case3 i h hlt=>
  intro _;rw[Za0 (by omega),Z5U (by omega)];simp
def refM(s:List UInt8):Int:=
 if 65536<s.length then 2 else if 0<=chk s 0 then 40 else if anyB VH s 0 then 50 else 0
def J2(c:Int):Prop:=(97<=c/\c<=122)\/(65<=c/\c<=90)
def SchI(c:Int):Prop:=(48<=c/\c<=57)\/c=43\/c=45\/c=46
instance (c:Int):Decidable (J2 c):=by unfold J2;infer_instance
instance (c:Int):Decidable (SchI c):=by unfold SchI;infer_instance
def schM(s:List UInt8)(i:Nat):Int:=
 if h:i<s.length then if Z1 s i=58 then i else if J2 (Z1 s i)\/i≠0/\SchI (Z1 s i)then schM s (i+1)else 0 else 0
termination_by s.length-i
theorem Z2r{s:List UInt8}{i:Nat}(h:s.length<=i):schM s i=0:=by rw[schM,dif_neg (by omega)]
theorem Wq{s:List UInt8}{i:Nat}(h:i<s.length)(hc:Z1 s i=58):schM s i=i:=by rw[schM,dif_pos h,if_pos hc]
theorem Z3H{s:List UInt8}{i:Nat}(h:i<s.length)(hc:¬Z1 s i=58)(hl:J2 (Z1 s i)\/i≠0/\SchI (Z1 s i)):schM s i=schM s (i+1):=by
 conv=>lhs;rw[schM]
 rw[dif_pos h,if_neg hc,if_pos hl]
theorem Z3I{s:List UInt8}{i:Nat}(h:i<s.length)(hc:¬Z1 s i=58)(hl:¬(J2 (Z1 s i)\/i≠0/\SchI (Z1 s i))):schM s i=0:=by
 rw[schM,dif_pos h,if_neg hc,if_neg hl]
theorem ZeN(s:List UInt8)(i:Nat):0<=schM s i/\schM s i<=s.length:=by
 induction i using schM.induct s with
 |case1 i h hc=>rw[Wq h hc];omega
 |case2 i h hc hl ih=>rw[Z3H h hc hl];exact ih
 |case3 i h hc hl=>rw[Z3I h hc hl];omega
 |case4 i h=>rw[Z2r (by omega)];omega
def iriM(s:List UInt8):Int:=if refM s≠0 then refM s else if schM s 0=0 then 51 else 0
theorem WJ{c:UInt8}:∀{l:List UInt8},c∉l->Lib.indexByte l c= -1
 | [],_=>rfl
 |b::l,h=>by
  have h1:¬b=c:=fun e=>h (by rw[e];exact List.mem_cons_self ..);have h2:c∉l:=fun e=>h (List.mem_cons_of_mem _ e);unfold Lib.indexByte;rw[WJ h2];simp[h1]
theorem Z5V(i:Int):Z1 bars i<128:=by
 unfold Z1;by_cases h:i.toNat<9
 ·have:∀n:Nat,n<9->((bars.getD n 0).toNat:Int)<128:=by decide
  exact this _ h
 ·have:bars.getD i.toNat 0=0:=by simp[List.getD,bars];rw[List.getElem?_eq_none (by simp;omega)];rfl
  rw[this];decide
theorem ZeO:∀c∈bars,c.toNat<128:=by decide
theorem Zba{s:List UInt8}{i:Int}(h:0<=i/\i<s.length):∃c∈s,Z1 s i=bn c:=by
 have:i.toNat<s.length:=by omega
 refine⟨s[i.toNat],List.getElem_mem this,?_⟩;unfold Z1 bn;simp[List.getD,this]
theorem ZeP{l:List UInt8}{c:Int}(h:128<=c/\c<256)(hl:∀b∈l,b.toNat<128):Lib.indexByte l c.toNat.toUInt8= -1:=by
 apply WJ;intro hm;have h1:=hl _ hm
 have:c.toNat.toUInt8.toNat=c.toNat:=by
  rw[Nat.toUInt8_eq,UInt8.toNat_ofNat_of_lt' (by show c.toNat<256;omega)]
 omega
def Z3J(r:Int):Prop:=(65<=r/\r<=90)\/(97<=r/\r<=122)\/(192<=r/\r<=214)\/(216<=r/\r<=246)\/(248<=r/\r<=767)\/(880<=r/\r<=893)\/(895<=r/\r<=8191)\/(8204<=r/\r<=8205)\/(8304<=r/\r<=8591)\/(11264<=r/\r<=12271)\/(12289<=r/\r<=55295)\/(63744<=r/\r<=64975)\/(65008<=r/\r<=65533)\/(65536<=r/\r<=983039)
instance (r:Int):Decidable (Z3J r):=by unfold Z3J;infer_instance
def Z0A(r:Int):Prop:=Z3J r\/r=95
instance (r:Int):Decidable (Z0A r):=by unfold Z0A;infer_instance
def UZ(r:Int):Prop:=48<=r/\r<=57
instance (r:Int):Decidable (UZ r):=by unfold UZ;infer_instance
def YZ(r:Int):Prop:=Z0A r\/UZ r\/r=45\/r=183\/(768<=r/\r<=879)\/r=8255\/r=8256
instance (r:Int):Decidable (YZ r):=by unfold YZ;infer_instance
def Vd(r:Int):Prop:=Z0A r\/UZ r
instance (r:Int):Decidable (Vd r):=by unfold Vd;infer_instance
def runGo(s:List UInt8)(i e:Nat):Nat:=
 if h:(Zb s i).2≠0/\((Zb s i).1=46\/YZ (Zb s i).1)then
  runGo s (i+(Zb s i).2.toNat) (if(Zb s i).1=46 then e else i+(Zb s i).2.toNat)
 else e
termination_by s.length-i
decreasing_by
 have:=YX s i;omega
theorem Z1b{s:List UInt8}{i e:Nat}(h:(Zb s i).2≠0/\((Zb s i).1=46\/YZ (Zb s i).1)):runGo s i e=runGo s (i+(Zb s i).2.toNat) (if(Zb s i).1=46 then e else i+(Zb s i).2.toNat):=by
 conv=>lhs;rw[runGo]
 rw[dif_pos h]
theorem Z1c{s:List UInt8}{i e:Nat}(h:¬((Zb s i).2≠0/\((Zb s i).1=46\/YZ (Zb s i).1))):runGo s i e=e:=by
 rw[runGo,dif_neg h]
theorem Zdd(s:List UInt8)(i e:Nat)(h:e<=i):e<=runGo s i e/\(i<=s.length->runGo s i e<=s.length):=by
 induction i,e using runGo.induct s with
 |case1 i e h1 ih=>
  have hn:=YX s i;rw[Z1b h1];split
  ·rename_i h2;rw[dif_pos h2]at ih;have:=ih (by omega);exact⟨this.1,fun _=>this.2 (by omega)⟩
  ·rename_i h2;rw[dif_neg h2]at ih;have:=ih (by omega);exact⟨by omega,fun _=>this.2 (by omega)⟩
 |case2 i e h1=>rw[Z1c h1];exact⟨by omega,fun _=>by omega⟩
def runM(p:Int->Prop)[DecidablePred p](s:List UInt8)(i:Int):Int:=
 if(Zb s i).2=0\/¬p (Zb s i).1 then 0 else(runGo s (i.toNat+(Zb s i).2.toNat) (i.toNat+(Zb s i).2.toNat):Int)-i
def Z0B(s:List UInt8)(i:Nat):Bool:=
 if h:(Zb s i).2≠0 then
  decide ((Zb s i).1=46\/YZ (Zb s i).1)&&decide ((Zb s i).1=46->i+(Zb s i).2.toNat≠s.length)&&Z0B s (i+(Zb s i).2.toNat)
 else decide (s.length<=i)
termination_by s.length-i
decreasing_by have:=YX s i;omega
theorem Zbb:¬YZ 46:=by unfold YZ Z0A Z3J UZ;omega
theorem Z1d{s:List UInt8}{i:Nat}(h:s.length<=i):(Zb s i).2=0:=by unfold Zb;rw[if_pos (by omega)]
theorem Zbc(s:List UInt8)(i e:Nat)(h:e<=i)(hi:i<=s.length):runGo s i e=s.length<->(if i=s.length then e=s.length else Z0B s i=true):=by
 induction i,e using runGo.induct s with
 |case1 i e h1 ih=>
  have hn:=YX s i;rw[Z1b h1];rw[if_neg (show ¬i=s.length by omega)];conv=>rhs;rw[Z0B]
  rw[dif_pos h1.1];by_cases h2:(Zb s i).1=46
  ·rw[dif_pos h2]at ih;rw[if_pos h2];rw[ih (by omega) (by omega)];split
   ·rename_i h3;simp[h2,h3];omega
   ·rename_i h3;simp[h2,h3]
  ·rw[dif_neg h2]at ih;rw[if_neg h2];rw[ih (by omega) (by omega)];have h4:YZ (Zb s i).1:=by rcases h1.2 with h|h;exact(h2 h).elim;exact h
   split
   ·rename_i h3;simp[h2,h3,h4];rw[Z0B,dif_neg (by rw[Z1d (Nat.le_refl _)];simp)];simp
   ·rename_i h3;simp[h2,h4]
 |case2 i e h1=>
  rw[Z1c h1];split
  ·exact Iff.rfl
  ·rename_i h2;rw[Z0B];by_cases h3:(Zb s i).2≠0
   ·rw[dif_pos h3];have:¬((Zb s i).1=46\/YZ (Zb s i).1):=fun h=>h1 ⟨h3,h⟩;simp[this];omega
   ·rw[dif_neg h3];simp;omega
def Z51(s:List UInt8):Int:=if runM Vd s 0=0\/runM Vd s 0≠s.length then 60 else 0
def scalarsM(s:List UInt8)(i:Nat):Option (List Int):=
 if h:i<s.length then if h0:(Zb s i).2≠0 then(scalarsM s (i+(Zb s i).2.toNat)).map ((Zb s i).1:: ·)else none else some []
termination_by s.length-i
decreasing_by have:=YX s i;omega
def J3:List Int->Bool
 | []=>true
 | [r]=>decide (YZ r)
 |r::q::l=>decide (YZ r\/r=46)&&J3 (q::l)
theorem Z7w(s:List UInt8)(i:Nat)(hi:i<=s.length):Z0B s i=(match scalarsM s i with|some l=>J3 l|none=>false):=by
 induction i using scalarsM.induct s with
 |case1 i h h0 ih=>
  have hn:=YX s i;rw[Z0B,scalarsM,dif_pos h,dif_pos h0,dif_pos h0,ih (by omega)];by_cases h1:i+(Zb s i).2.toNat=s.length
  ·rw[h1];have:scalarsM s s.length=some []:=by rw[scalarsM,dif_neg (by omega)]
   rw[this];simp only[Option.map_some,J3,Bool.and_true];by_cases h2:(Zb s i).1=46
   ·rw[h2];have:=Zbb;simp[this]
   ·simp[h2]
  ·cases hc:scalarsM s (i+(Zb s i).2.toNat)with
   |none=>simp
   |some l=>
    cases l with
    |nil=>
     exfalso;rw[scalarsM,dif_pos (by omega)]at hc;split at hc
     ·cases hq:scalarsM s (i+(Zb s i).2.toNat+(Zb s ((i+(Zb s i).2.toNat:Nat):Int)).2.toNat)<;>rw[hq]at hc<;>simp at hc
     ·cases hc
    |cons q l=>
     simp only[Option.map_some,J3,h1,ne_eq,not_false_eq_true,implies_true,decide_true,Bool.and_true];congr 1;simp only[decide_eq_decide];exact Or.comm
 |case2 i h h0=>
  rw[Z0B,scalarsM,dif_neg h0,dif_pos h,dif_neg h0];simp;omega
 |case3 i h=>
  rw[Z0B,scalarsM,dif_neg (by rw[Z1d (by omega)];simp),dif_neg h];simp[J3];omega
def Za1(s:List UInt8):Int:=match scalarsM s 0 with
 |some (r::l)=>if Vd r/\J3 l=true then 0 else 60
 |_=>60
theorem ZeQ(s:List UInt8):Z51 s=Za1 s:=by
 unfold Z51 Za1 runM;have hn:=YX s 0;by_cases h:(0:Nat)<s.length
 ·rw[scalarsM,dif_pos h];by_cases h0:(Zb s 0).2≠0
  ·have e:Zb s ((0:Nat):Int)=Zb s 0:=rfl;rw[dif_pos (by rw[e];exact h0),e];have hr:=Z7w s (0+(Zb s 0).2.toNat) (by omega);have hf:=Zbc s (0+(Zb s 0).2.toNat) (0+(Zb s 0).2.toNat) (Nat.le_refl _) (by omega);have hg:=Zdd s (0+(Zb s 0).2.toNat) (0+(Zb s 0).2.toNat) (Nat.le_refl _);rw[show(0:Int).toNat=0 from rfl];generalize runGo s (0+(Zb s 0).2.toNat) (0+(Zb s 0).2.toNat)=g at*;by_cases hl:Vd (Zb s 0).1
   ·rw[if_neg (show ¬((Zb s 0).2=0\/¬Vd (Zb s 0).1)by simp[h0,hl])];by_cases h1:0+(Zb s 0).2.toNat=s.length
    ·rw[if_pos h1]at hf;have:scalarsM s (0+(Zb s 0).2.toNat)=some []:=by rw[scalarsM,dif_neg (by omega)]
     rw[this];simp only[Option.map_some,J3,hl,and_self,if_true];rw[if_neg];have:=hf.2 h1;omega
    ·rw[if_neg h1,hr]at hf;cases hc:scalarsM s (0+(Zb s 0).2.toNat)with
     |none=>
      rw[hc]at hf;simp only[Option.map_none];rw[if_pos];simp at hf;omega
     |some l=>
      rw[hc]at hf;simp only[Option.map_some,hl,true_and]at hf⊢;by_cases hs:J3 l=true
      ·rw[if_pos hs,if_neg];have:=hf.2 hs;omega
      ·rw[if_neg hs,if_pos];have:¬g=s.length:=fun h=>hs (hf.1 h);omega
   ·rw[if_pos (show((Zb s 0).2=0\/¬Vd (Zb s 0).1)from .inr hl),if_pos (.inl rfl)];cases hc:scalarsM s (0+(Zb s 0).2.toNat)with
    |none=>rfl
    |some l=>simp[hl]
  ·rw[dif_neg (show ¬(Zb s ((0:Nat):Int)).2≠0 from h0)];simp only[ne_eq,Decidable.not_not]at h0;rw[if_pos (show((Zb s 0).2=0\/¬Vd (Zb s 0).1)from .inl h0),if_pos (.inl rfl)]
 ·rw[scalarsM,dif_neg h];have h0:(Zb s 0).2=0:=Z1d (i:=0) (by omega);rw[if_pos (show((Zb s 0).2=0\/¬Vd (Zb s 0).1)from .inl h0),if_pos (.inl rfl)]
def allB(p:Int->Bool)(s:List UInt8)(i:Nat):Bool:=!anyB (fun c=>!p c) s i
theorem Wr{p:Int->Bool}{s:List UInt8}{i:Nat}(h:s.length<=i):allB p s i=true:=by unfold allB;rw[Z5U h];rfl
theorem JH{p:Int->Bool}{s:List UInt8}{i:Nat}(h:i<s.length):allB p s i=(p (Z1 s i)&&allB p s (i+1)):=by
 unfold allB;rw[Z3G h];simp
def Ve(c:Int):Bool:=decide (J2 c)
def XQ(c:Int):Bool:=decide (UZ c)
def JR(pure:Bool)(c:Int):Bool:=Ve c||(!pure&&XQ c)
def ZD(s:List UInt8)(least most:Int)(pure:Bool):Bool:=allB (JR pure) s 0&&decide (least<=s.length/\(s.length:Int)<=most)
theorem Z7x{c:Int}(h:128<=c):Ve c=false:=decide_eq_false (by unfold J2;omega)
theorem Z8Q{c:Int}(h:128<=c):XQ c=false:=decide_eq_false (by unfold UZ;omega)
theorem Z52{pure:Bool}{c:Int}(h:128<=c):JR pure c=false:=by unfold JR;rw[Z7x h,Z8Q h];simp
def ZY(s:List UInt8):Bool:=s==[120]||s==[88]
def Jr(s:List UInt8):Bool:=ZD s 5 8 false||ZD s 4 4 false&&XQ (Z1 s 0)
def Xj(s:List UInt8):Bool:=ZD s 2 2 true||decide (s.length=3)&&XQ (Z1 s 0)&&XQ (Z1 s 1)&&XQ (Z1 s 2)
def lowB(c:UInt8):UInt8:=if 65<=c.toNat/\c.toNat<=90 then UInt8.ofNat (c.toNat+32)else c
def Z4(s:List UInt8):List UInt8:=s.map lowB
theorem Za2(p:Int->Bool)(c:UInt8):allB p [c] 0=p (bn c):=by
 rw[JH (by simp),Wr (by simp),Bool.and_true];rfl
def curL(s:List UInt8)(i:Nat):List UInt8:=(s.map lowB).take i++s.drop i
theorem Za3(s:List UInt8)(i:Nat):(curL s i).length=s.length:=by unfold curL;simp;omega
theorem Z7y(s:List UInt8):curL s 0=s:=by simp[curL]
theorem Za4{s:List UInt8}{i:Nat}(h:s.length<=i):curL s i=Z4 s:=by unfold curL Z4;rw[List.take_of_length_le (by simpa using h),List.drop_eq_nil_of_le h,List.append_nil]
theorem ZeR{s:List UInt8}{i:Nat}(h:i<s.length):(curL s i)[i]?=some s[i]:=by
 unfold curL;rw[List.getElem?_append_right (by simp;omega)];simp;rw[show min i s.length=i by omega];simp[h]
theorem ZeS{s:List UInt8}{i:Nat}(h:i<s.length):(curL s i).set i (lowB s[i])=curL s (i+1):=by
 unfold curL;rw[List.set_append_right _ _ (by simp;omega),List.drop_eq_getElem_cons h];simp only[List.length_map,List.length_take];rw[show i-min i s.length=0 by omega,List.set_cons_zero,List.take_succ_eq_append_getElem (by simpa using h),List.getElem_map,List.append_assoc]
 rfl
theorem Z7z{s:List UInt8}{i:Nat}(h:i<s.length)(hc:lowB s[i]=s[i]):curL s i=curL s (i+1):=by
 unfold curL;rw[List.drop_eq_getElem_cons h,List.take_succ_eq_append_getElem (by simpa using h),List.getElem_map,hc,List.append_assoc]
 rfl
theorem Z5W{s:List UInt8}{i:Nat}(h:i<s.length):((curL s i).map Sx.bytesRow)[i]?=some (Sx.bytesRow s[i]):=by
 rw[List.getElem?_map,ZeR h];rfl
theorem Za5{s:List UInt8}{i:Nat}(h:i<s.length):((curL s i).map Sx.bytesRow).set i (Sx.bytesRow (lowB s[i]))=(curL s (i+1)).map Sx.bytesRow:=by
 rw[<-List.map_set,ZeS h]
theorem Zde{c:UInt8}(h:65<=(c.toNat:Int)/\(c.toNat:Int)<=90):[SV.int .u8 (IntKind.u8.wrap ((c.toNat:Int)+32))]=Sx.bytesRow (lowB c):=by
 unfold Sx.bytesRow lowB;rw[if_pos (by omega),ZfL (by omega) (by omega),UInt8.toNat_ofNat_of_lt' (by show c.toNat+32<256;omega)];simp
theorem Z8R{c:UInt8}(h:¬(65<=(c.toNat:Int)/\(c.toNat:Int)<=90)):lowB c=c:=by unfold lowB;rw[if_neg (by omega)]
end Go.Our
