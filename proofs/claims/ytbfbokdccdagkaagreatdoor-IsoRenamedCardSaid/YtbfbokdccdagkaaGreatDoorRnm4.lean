/- Part 4: SxOpsJ, SxSound, SxSoundG, SxSpec, SxCall, SxUse, SxBack, SxAuto, Utf, TmM, SxAuto2, Utf2, Rune, IriM, NamesM, PartM. Conditions: as each part says. -/
import Derived.Tactics
import Derived.IntWalk
import Derived.Lib.Bytealg
import Derived.Test.YtbfbokdccdagkaaGreatDoorRnm2
import Derived.Test.YtbfbokdccdagkaaGreatDoorRnm3
set_option linter.unusedVariables false
set_option linter.unusedSimpArgs false
namespace Go.Sx
open Go
section
variable {M:Mx}{η:Env}{w:World}{O:Hps}{nx:Nat}{ρ:Operand->Value}{lk:Operand->Option SV}{v:SV}{O':Hps}{nx':Nat}{dst:Option Tmp}{ty:TypeId}{pos:String}{af:Array Edge}{gd:Option (Nat×Bool)}
theorem Zhl(A:At M η w O nx ρ lk)(args:Array Operand)(ts:Array TypeId)(hr:(opR M.C lk O nx (.call ⟨.builtin .min,args,ts⟩)).ok O nx v O' nx'):Y4 M η w ⟨dst, .call ⟨.builtin .min,args,ts⟩,ty,pos,af,gd⟩ ρ v O' nx':=by
 simp only[opR,JH,minR]at hr;split at hr
 case h_2=>exact hr.elim
 rename_i x y ha;obtain rfl:args= #[x,y]:=by apply Array.ext';simpa using ha
 split at hr
 case h_2=>exact hr.elim
 rename_i k a hx;split at hr
 case h_2=>exact hr.elim
 rename_i k' b hy;have h1:=Jo (A.L _ _ hx);have h2:=Jo (A.L _ _ hy);exact A.val hr ⟨.int k (if b<a then b else a), .inl (by simp[execOp,resolve,invoke,builtin,h1,h2,Builtin.min_,Builtin.min2]),rfl⟩
theorem Zhm(A:At M η w O nx ρ lk)(args:Array Operand)(ts:Array TypeId)(hr:(opR M.C lk O nx (.call ⟨.builtin .max,args,ts⟩)).ok O nx v O' nx'):Y4 M η w ⟨dst, .call ⟨.builtin .max,args,ts⟩,ty,pos,af,gd⟩ ρ v O' nx':=by
 simp only[opR,JH,maxR]at hr;split at hr
 case h_2=>exact hr.elim
 rename_i x y ha;obtain rfl:args= #[x,y]:=by apply Array.ext';simpa using ha
 split at hr
 case h_2=>exact hr.elim
 rename_i k a hx;split at hr
 case h_2=>exact hr.elim
 rename_i k' b hy;have h1:=Jo (A.L _ _ hx);have h2:=Jo (A.L _ _ hy);exact A.val hr ⟨.int k (if a<b then b else a), .inl (by simp[execOp,resolve,invoke,builtin,h1,h2,Builtin.max_,Builtin.max2]),rfl⟩
theorem ZeW(A:At M η w O nx ρ lk)(t:TypeId)(x:Operand)(hr:(opR M.C lk O nx (.range t x)).ok O nx v O' nx'):Y4 M η w ⟨dst, .range t x,ty,pos,af,gd⟩ ρ v O' nx':=by
 simp only[opR,Ze9]at hr;split at hr
 case h_2=>exact hr.elim
 rename_i hs;obtain⟨d,hd,hm⟩:=A.T.und t (by rw[hs];simp);rw[hs]at hm;simp only[ShM]at hm;subst hm;split at hr
 case h_2=>exact hr.elim
 rename_i s hx;obtain⟨rfl,rfl,rfl⟩:=hr;have hxv:=Z0k (A.L _ _ hx);refine⟨.pointer (some ⟨w.heap.size,0,none⟩),YL w (.stringIter ⟨s.toArray⟩ 0),η++ [some ⟨w.heap.size,0,0⟩], .inl ?_,List.prefix_append _ _,?_,?_,fun _ h=>absurd h (by simp)⟩
 ·simp[execOp,hxv,Instr.range,Z4 hd,YL]
 ·refine A.H.alloc (w':=YL w (.stringIter ⟨s.toArray⟩ 0)) rfl rfl rfl rfl 0 0 ?_;simp only[HpSat];exact⟨_,ZL A.H.len _,rfl,Yj (w:=w) (w':=YL w (.stringIter ⟨s.toArray⟩ 0)) rfl⟩
 ·simp only[Den];exact⟨_,ZL A.H.len _,by simp⟩
theorem Zgg(A:At M η w O nx ρ lk)(x:Operand)(b:Bool)(hr:(opR M.C lk O nx (.next x b)).ok O nx v O' nx'):Y4 M η w ⟨dst, .next x b,ty,pos,af,gd⟩ ρ v O' nx':=by
 simp only[opR,ZfX]at hr;split at hr
 case h_2=>exact hr.elim
 split at hr
 case h_2=>exact hr.elim
 rename_i i r es c hx;split at hr
 case h_2=>exact hr.elim
 rename_i s pos' hh;split at hr
 case h_2=>exact hr.elim
 rename_i hz;have hz:=Zq hz;have hxv:=A.L _ _ hx;simp only[Den,Env.get]at hxv;obtain⟨en,hb,hxv⟩:=hxv;obtain⟨hsat,_⟩:=A.H.own.1 i _ hh;simp only[HpSat,Env.get]at hsat;obtain⟨en',h1,h2,h3⟩:=hsat;rw[hb]at h1;injection h1 with h1;injection h1 with h1;subst h1
 rw[h2,hz]at hxv;simp only[Nat.zero_add]at hxv;have hlt:en.g<w.heap.size:=(Array.getElem?_eq_some_iff.1 h3).1;have hget:(getObj en.g).run M.P w= .ok (.stringIter ⟨s.toArray⟩ pos') w:=by simp[getObj,Sem.run,h3]
 simp only[Res.ok,decide_eq_true_eq]at hr;split at hr
 ·rename_i hp;obtain⟨rfl,rfl,rfl⟩:=hr;have hset:(setObj en.g (.stringIter ⟨s.toArray⟩ (pos'+(Utf8.decode ⟨s.toArray⟩ pos').2))).run M.P w= .ok () {w with heap:=w.heap.setIfInBounds en.g (.stringIter ⟨s.toArray⟩ (pos'+(Utf8.decode ⟨s.toArray⟩ pos').2))}:=by simp[setObj,Sem.run,h3]
  refine⟨.tuple #[.bool true, .int .i64 (pos':Int), .int .i32 ((Utf8.decode ⟨s.toArray⟩ pos').1:Int)],{w with heap:=w.heap.setIfInBounds en.g (.stringIter ⟨s.toArray⟩ (pos'+(Utf8.decode ⟨s.toArray⟩ pos').2))},η, .inl ?_,List.prefix_rfl,?_,?_,fun h=>by cases h⟩
  ·simp[execOp,hxv,Instr.next,hget,JW,hp,hset,goInt]
  ·refine A.H.upd hh hb (fun k hk=>?_) (by simp) rfl rfl rfl ?_
   ·simp[Array.getElem?_setIfInBounds,Ne.symm hk]
   ·simp only[HpSat,Env.get];exact⟨en,hb,h2,by simp[hlt]⟩
  ·simp only[Den,DenL];exact⟨_,rfl,_,_,rfl,rfl,_,_,rfl,rfl,_,_,rfl,rfl,rfl⟩
 ·rename_i hp;obtain⟨rfl,rfl,rfl⟩:=hr;refine A.same (u:= .tuple #[.bool false]) (.inl ?_) ?_ rfl rfl
  ·simp[execOp,hxv,Instr.next,hget,JW,hp]
  ·simp only[Den,DenL];exact⟨_,rfl,_,_,rfl,rfl,rfl⟩
theorem Wk(l:List UInt8):(l.map bytesRow).map Z1n=l:=by
 rw[List.map_map];conv=>rhs;rw[<-List.map_id l]
 apply List.map_congr_left;intro b _;simp[bytesRow,Z1n]
theorem Z3j{η:Env}:∀{l:List UInt8} {news:List Value},DenLL η 1 (l.map bytesRow) news->news=l.map fun c=> .int .u8 (c.toNat:Int)
 | [],news,h=>by simpa[DenLL]using h
 |c::l,news,h=>by
  simp only[List.map_cons,DenLL]at h;obtain⟨us,ws,rfl,_,h1,h2⟩:=h;simp only[bytesRow,DenL,Den]at h1;obtain⟨u,us',rfl,rfl,rfl⟩:=h1;rw[Z3j h2];rfl
theorem Zam(A:At M η w O nx ρ lk)(a b:TypeId)(x:Operand)(hr:(opR M.C lk O nx (.convert a b x)).ok O nx v O' nx'):Y4 M η w ⟨dst, .convert a b x,ty,pos,af,gd⟩ ρ v O' nx':=by
 simp only[opR,ZfV]at hr;split at hr
 ·exact hr.elim
 rename_i hok;have hsa:M.C.T.sh a≠ .other:=by intro h;simp[okSh,h]at hok
 obtain⟨da,hda,hma⟩:=A.T.und a hsa
 have bytesd:∀{t e:TypeId},Z1p M.C.T t=some e->M.P.underlying t=some (.slice e)/\M.P.underlying e=some (.int .u8):=by
  intro t e h;unfold Z1p at h;split at h
  case h_2=>cases h
  rename_i q hq;split at h
  case h_2=>cases h
  rename_i hq';injection h with h;subst h;obtain⟨d,hd,hm⟩:=A.T.und t (by rw[hq];simp);rw[hq]at hm;simp only[ShM]at hm;subst hm;obtain⟨d,hd',hm⟩:=A.T.und q (by rw[hq'];simp);rw[hq']at hm;simp only[ShM]at hm;subst hm;exact⟨hd,hd'⟩
 split at hr
 ·rename_i k n hx;have hxv:=Jo (A.L _ _ hx);split at hr
  case h_3=>exact hr.elim
  ·rename_i k' hs;obtain⟨d,hd,hm⟩:=A.T.und b (by rw[hs];simp);rw[hs]at hm;simp only[ShM]at hm;subst hm;refine A.val hr ⟨.int k' (k'.wrap n), .inl ?_,rfl⟩
   have:(convert a b (.int k n)).run M.P w= .ok (.int k' (k'.wrap n)) w:=by
    simp only[convert,Sem.run_bind,Z4 hda,Z4 hd,Result.andThen_ok];cases da<;>rfl
   simp[execOp,hxv,this]
  ·rename_i hs;obtain⟨d,hd,hm⟩:=A.T.und b (by rw[hs];simp);rw[hs]at hm;simp only[ShM]at hm;subst hm;refine A.val hr ⟨.string (Utf8.encode n), .inl ?_,rfl⟩
   have:(convert a b (.int k n)).run M.P w= .ok (.string (Utf8.encode n)) w:=by
    simp only[convert,Sem.run_bind,Z4 hda,Z4 hd,Result.andThen_ok];cases da<;>rfl
   simp[execOp,hxv,this]
 ·rename_i s hx;have hxv:=Z0k (A.L _ _ hx);split at hr
  ·rename_i hs;obtain⟨d,hd,hm⟩:=A.T.und b (by rw[hs];simp);rw[hs]at hm;simp only[ShM]at hm;subst hm;refine A.val hr ⟨.string ⟨s.toArray⟩, .inl ?_,rfl⟩
   have:(convert a b (.string ⟨s.toArray⟩)).run M.P w= .ok (.string ⟨s.toArray⟩) w:=by
    simp only[convert,Sem.run_bind,Z4 hda,Z4 hd,Result.andThen_ok];cases da<;>rfl
   simp[execOp,hxv,this]
  ·split at hr
   case h_2=>exact hr.elim
   rename_i e he;obtain⟨hd,hd'⟩:=bytesd he;split at hr
   case h_2=>exact hr.elim
   rename_i hsz;have hsz:=Zq hsz;split at hr
   case h_2=>exact hr.elim
   rename_i hsrc;obtain⟨da',hda',hma'⟩:=A.T.und a (by rw[hsrc];simp);rw[hsrc]at hma';simp only[ShM]at hma';subst hma';obtain⟨hlen,rfl,rfl,rfl⟩:=hr;have hrun:=run_bytes_of_string (P:=M.P) w a b e ⟨s.toArray⟩ hda' hd hd';rw[JW]at hrun;have hge:=grownCap_ge w s.length 0 e;have hbs:(Go.bytesRow ⟨s.toArray⟩ (grownCap w s.length 0 e)).size=grownCap w s.length 0 e:=by simp[Go.bytesRow,JW];omega
   refine⟨_,w.drew.alloc (.cells (Go.bytesRow ⟨s.toArray⟩ (grownCap w s.length 0 e)) e ((Go.bytesRow ⟨s.toArray⟩ (grownCap w s.length 0 e)).size,(Go.bytesRow ⟨s.toArray⟩ (grownCap w s.length 0 e)).size+1)),η++ [some ⟨w.heap.size,0,grownCap w s.length 0 e⟩],
    .inl (by simp only[execOp,hxv,Sem.run_bind,hrun,Result.andThen_ok,Sem.run_pure]),List.prefix_append _ _,?_,VL A.H.len hge,fun _ h=>absurd h (by simp)⟩
   refine HeapOK.alloc (w':=w.drew.alloc (.cells (Go.bytesRow ⟨s.toArray⟩ (grownCap w s.length 0 e)) e ((Go.bytesRow ⟨s.toArray⟩ (grownCap w s.length 0 e)).size,(Go.bytesRow ⟨s.toArray⟩ (grownCap w s.length 0 e)).size+1))) A.H rfl rfl rfl rfl 0 _ ?_;simp only[HpSat];right
   refine⟨_,Go.bytesRow ⟨s.toArray⟩ (grownCap w s.length 0 e),e,((Go.bytesRow ⟨s.toArray⟩ (grownCap w s.length 0 e)).size,(Go.bytesRow ⟨s.toArray⟩ (grownCap w s.length 0 e)).size+1),ZL A.H.len _,Yj (w:=w) (o:= .cells (Go.bytesRow ⟨s.toArray⟩ (grownCap w s.length 0 e)) e ((Go.bytesRow ⟨s.toArray⟩ (grownCap w s.length 0 e)).size,(Go.bytesRow ⟨s.toArray⟩ (grownCap w s.length 0 e)).size+1)) rfl,fun _=>⟨?_,by rw[hbs,Nat.mul_one],by simpa using hge,rfl⟩,?_⟩
   ·intro o ho h;omega
   ·intro k row hk;rw[List.getElem?_map]at hk;cases hq:s[k]? with
    |none=>rw[hq]at hk;cases hk
    |some c=>
     rw[hq]at hk;injection hk with hk;subst hk;refine⟨rfl,fun j sv hj=>?_⟩;cases j with
     |succ j=>simp[bytesRow]at hj
     |zero=>
      simp[bytesRow]at hj;subst hj;have hkl:=(List.getElem?_eq_some_iff.1 hq).1;refine⟨.int .u8 (c.toNat:Int),?_,rfl,rfl⟩;simp only[Go.bytesRow,Nat.zero_add,Nat.mul_one,Nat.add_zero];rw[Array.getElem?_append_left (by simpa using hkl)];simp[hq]
 ·rename_i bb r es len lim hx;split at hr
  case h_2=>exact hr.elim
  rename_i hs;obtain⟨d,hd,hm⟩:=A.T.und b (by rw[hs];simp);rw[hs]at hm;simp only[ShM]at hm;subst hm;split at hr
  case h_2=>exact hr.elim
  rename_i e he;obtain⟨hd1,hd2⟩:=bytesd he;split at hr
  case h_2=>exact hr.elim
  rename_i xs m hrows;obtain⟨⟨hl,l,hxl⟩,hr⟩:=hr;have hxd:=A.L _ _ hx;obtain⟨news,N⟩:=YZ A hxd hrows hl
  have hm:m=len:=by
   unfold Z2O at hrows;simp only at hrows;split at hrows
   case h_2=>cases hrows
   split at hrows
   case h_2=>cases hrows
   split at hrows
   case h_2=>cases hrows
   simp only[Option.some.injEq,Prod.mk.injEq]at hrows;exact hrows.2.symm
  subst hm;subst hxl;rw[Wk]at hr;refine A.val hr ⟨.string ⟨l.toArray⟩, .inl ?_,rfl⟩;have hnews:=Z3j N.den;have hf:=N.first w rfl;simp only[List.length_map]at hl;simp only[Den]at hxd;rcases hxd with⟨_,hxv,h0⟩|⟨en,o,_,hxv,_⟩
  ·subst h0;have:l=[]:=List.length_eq_zero_iff.1 hl;subst this;simp[execOp,hxv,convert,Z4 hd1,Z4 hd,Z4 hd2,Conv.bytesToString]
   rfl
  ·rw[hxv]at hf;simp only[Builtin.firstCells,Nat.mul_one]at hf
   have hconv:(convert a b (.slice (some ⟨en.g,o,none⟩) m (lim.getD en.cap-r))).run M.P w= .ok (.string ⟨l.toArray⟩) w:=by
    rw[run_convert_bytes_string w a b e _ m _ hd1 hd2 hd]
    have hf':(loadCells ⟨en.g,o,none⟩ m).run M.P w= .ok ((l.map (fun c=>(c.toNat:Int))).map (Value.int .u8)).toArray w:=by
     rw[hf,hnews];simp
    rw[run_bytesToString w _ m _ _ hf',foldl_push_byteCells];simp
   simp[execOp,hxv,hconv]
 ·rename_i hx;obtain⟨hxv,_⟩:ρ x= .slice none 0 0/\True:=⟨And.left (A.L _ _ hx),trivial⟩;split at hr
  case h_2=>exact hr.elim
  rename_i hs;obtain⟨d,hd,hm⟩:=A.T.und b (by rw[hs];simp);rw[hs]at hm;simp only[ShM]at hm;subst hm;split at hr
  case h_2=>exact hr.elim
  rename_i e he;obtain⟨hd1,hd2⟩:=bytesd he;refine A.val hr ⟨.string ⟨[].toArray⟩, .inl ?_,rfl⟩;simp[execOp,hxv,convert,Z4 hd1,Z4 hd,Z4 hd2,Conv.bytesToString]
  rfl
 ·exact hr.elim
theorem Zgh(A:At M η w O nx ρ lk)(args:Array Operand)(ts:Array TypeId)(hr:(opR M.C lk O nx (.call ⟨.builtin .copy,args,ts⟩)).ok O nx v O' nx'):Y4 M η w ⟨dst, .call ⟨.builtin .copy,args,ts⟩,ty,pos,af,gd⟩ ρ v O' nx':=by
 simp only[opR,JH,ZfZ]at hr;split at hr
 case h_2=>exact hr.elim
 rename_i dd x ha;obtain rfl:args= #[dd,x]:=by apply Array.ext';simpa using ha
 split at hr
 case h_2=>exact hr.elim
 rename_i t u htu;obtain rfl:ts= #[t,u]:=by apply Array.ext';simpa using htu
 split at hr
 case h_2=>exact hr.elim
 rename_i e hst;obtain⟨d,hd,hm⟩:=A.T.und t (by rw[hst];simp);rw[hst]at hm;simp only[ShM]at hm;subst hm;split at hr
 ·exact hr.elim
 rename_i hok;have hsh:M.C.T.sh e≠ .other:=by intro h;simp[okSh,h]at hok
 obtain⟨ie,hie,hies,_⟩:=A.T.info e hsh;split at hr
 case h_2=>exact hr.elim
 rename_i i r es n lim hdv;have hdd:=A.L _ _ hdv;split at hr
 ·exact hr.elim
 rename_i xsv hx;have hxd:=A.L _ _ hx;split at hr
 ·exact hr.elim
 rename_i xs m hrows;split at hr
 case h_2=>exact hr.elim
 rename_i es' rs hh;split at hr
 case h_2=>exact hr.elim
 rename_i h1;have h1:=Zq h1;subst h1;split at hr
 case h_2=>exact hr.elim
 rename_i h2;have h2:=Zq h2;subst h2;obtain⟨⟨q1,q2,q3⟩,rfl,rfl,rfl⟩:=hr;obtain⟨news,N⟩:=YZ A hxd hrows q1;obtain⟨hsat,_⟩:=A.H.own.1 i _ hh;simp only[HpSat,Env.get]at hsat;have hmin:Nat.min m n=m:=Nat.min_eq_left q2;have hd1:=N.first w rfl
 have fin:∀{w':World},(Builtin.copy_ #[t,u] ty #[ρ dd,ρ x]).run M.P w= .ok (.int .i64 m) w'->Z0j M.P ⟨dst, .call ⟨.builtin .copy, #[dd,x], #[t,u]⟩,ty,pos,af,gd⟩ ρ w (.int .i64 m) w':=by
  intro w' h;exact .inl (by simp[execOp,resolve,invoke,builtin,h])
 simp only[Den,Env.get]at hdd;rcases hdd with⟨p1,hdv',p3⟩|⟨en,o,p1,hdv',p3,p4,p5⟩
 ·rcases hsat with⟨p6,rfl⟩|⟨en',arr,T,fz,p6,_⟩
  case inr=>rw[p1]at p6;cases p6
  subst p3;have hm0:m=0:=by omega
  subst hm0;have hx0:xs=[]:=List.length_eq_zero_iff.1 q1;subst hx0;refine⟨_,w,η,fin ?_,List.prefix_rfl,?_,rfl,fun h=>by cases h⟩
  ·simp[hdv',Builtin.copy_,Z4 hd,N.lenOf,Zp hie,hies,hd1,goInt]
  ·refine{pre:=A.H.pre,len:=A.H.len,fr:=A.H.fr,sok:=A.H.sok,own:=⟨fun j g hj=>?_,fun j k g g' m hj hk hne f f'=>?_⟩}
   ·rw[Y3 i _ O j (by rw[hh];rfl)]at hj;split at hj
    ·rename_i e;subst e;injection hj with hj;subst hj
     exact⟨Or.inl ⟨p1,by simp⟩,fun k f=>(feet.none (b:= .loc j) p1 f).elim⟩
    ·exact A.H.own.1 j g hj
   ·have aux:∀(j:Nat) (g:Hp) (m:Nat),feet η w (.loc j) g m->lkp j (setK i (.rows (M.C.T.size e) (List.take r []++ []++List.drop (r+0) [])) O)=some g->lkp j O=some g:=by
     intro j g m f hj;rw[Y3 i _ O j (by rw[hh];rfl)]at hj;split at hj
     ·rename_i e;subst e;exact(feet.none (b:= .loc j) p1 f).elim
     ·exact hj
    exact A.H.own.2 j k g g' m (aux j g m f hj) (aux k g' m f' hk) hne f f'
 ·rcases hsat with⟨p6,_⟩|⟨en',arr,T,fz,p6,p7,p8,p9⟩
  ·rw[p1]at p6;cases p6
  rw[p1]at p6;injection p6 with p6;injection p6 with p6;subst p6
  obtain⟨p8u,p8s,p8c,p8b⟩:=p8 trivial;rw[p8b]at p9;obtain⟨r1,r2⟩:=Wh p8s (r:=r) (xs:=xs) (by omega) (by omega) p9 N.den N.one;by_cases hm0:m=0
  ·subst hm0;have hx0:xs=[]:=List.length_eq_zero_iff.1 q1;have hn0:news=[]:=by apply List.length_eq_zero_iff.1;rw[N.len];omega
   subst hx0 hn0;refine⟨_,w,η,fin ?_,List.prefix_rfl,?_,rfl,fun h=>by cases h⟩
   ·simp[hdv',Builtin.copy_,Z4 hd,N.lenOf,Zp hie,hies,hd1,goInt,storeCells]
   ·refine A.H.upd hh p1 (fun k _=>rfl) rfl rfl rfl rfl ?_;simp only[HpSat,Env.get];right
    exact⟨en,arr,T,fz,p1,p7,fun _=>⟨p8u,p8s,by simpa using p8c,p8b⟩,by rw[p8b];simpa using p9⟩
  ·have ho:=p5 (.inl (by omega));rw[p8b,Nat.zero_add]at ho;subst ho;have hst:=YG (P:=M.P) en.g (r*M.C.T.size e) T fz news 0 arr w p7 (by simpa using r1) p8u N.one;simp only[Nat.add_zero]at hst
   have hsz':(arr.toList.take (r*M.C.T.size e)++news++arr.toList.drop (r*M.C.T.size e+news.length)).toArray.size=arr.size:=by
    simp only[List.size_toArray,List.length_append,List.length_take,List.length_drop,Array.length_toList];omega
   refine⟨_,w.setRow en.g (arr.toList.take (r*M.C.T.size e)++news++arr.toList.drop (r*M.C.T.size e+news.length)).toArray,η,fin ?_,List.prefix_rfl,A.H.upd hh p1 (fun k hk=>setRow_other w en.g k _ hk) (setRow_size _ _ _) rfl rfl rfl ?_,rfl,fun h=>by cases h⟩
   ·simp[hdv',Builtin.copy_,Z4 hd,N.lenOf,Zp hie,hies,hmin,hd1,hst,goInt]
   ·simp only[HpSat,Env.get];right
    refine⟨en,_,T,fz,p1,setRow_heap w en.g arr _ T fz p7,fun _=>⟨by rw[hsz'];exact p8u,by rw[hsz'];exact p8s,?_,p8b⟩,by rw[p8b,<-q1];exact r2⟩;simp only[List.length_append,List.length_take,List.length_drop];omega
theorem ZeX(A:At M η w O nx ρ lk)(args:Array Operand)(ts:Array TypeId)(hr:(opR M.C lk O nx (.call ⟨.builtin .clear,args,ts⟩)).ok O nx v O' nx'):Y4 M η w ⟨dst, .call ⟨.builtin .clear,args,ts⟩,ty,pos,af,gd⟩ ρ v O' nx':=by
 simp only[opR,JH,Zea]at hr;split at hr
 case h_2=>exact hr.elim
 rename_i dd ha;obtain rfl:args= #[dd]:=by apply Array.ext';simpa using ha
 split at hr
 case h_2=>exact hr.elim
 rename_i t htu;obtain rfl:ts= #[t]:=by apply Array.ext';simpa using htu
 split at hr
 case h_2=>exact hr.elim
 rename_i e hst;obtain⟨d,hd,hm⟩:=A.T.und t (by rw[hst];simp);rw[hst]at hm;simp only[ShM]at hm;subst hm;split at hr
 ·exact hr.elim
 rename_i c cs hz;have hsh:M.C.T.sh e≠ .other:=A.T.zsh e (by rw[hz];simp);obtain⟨ie,z,h1,h2,h3,h4,h5,_⟩:=A.T.zero e hsh (by rw[hz];simp);rw[hz]at h3 h5;have h3:=DenL.mono (η':=η) List.nil_prefix h3;have hzl:z.cells.toList.length=M.C.T.size e:=by have:=ZJ h3;rw[h5]at this;exact this
 split at hr
 case h_2=>exact hr.elim
 rename_i i r es n lim hdv;have hdd:=A.L _ _ hdv;split at hr
 case h_2=>exact hr.elim
 rename_i es' rs hh;split at hr
 case h_2=>exact hr.elim
 rename_i g1;have g1:=Zq g1;subst g1;split at hr
 case h_2=>exact hr.elim
 rename_i g2;have g2:=Zq g2;subst g2;obtain⟨q3,rfl,rfl,rfl⟩:=hr;obtain⟨hsat,_⟩:=A.H.own.1 i _ hh;simp only[HpSat,Env.get]at hsat
 have fin:∀{w':World},(Builtin.clear_ #[t] ty #[ρ dd]).run M.P w= .ok (.tuple #[]) w'->Z0j M.P ⟨dst, .call ⟨.builtin .clear, #[dd], #[t]⟩,ty,pos,af,gd⟩ ρ w (.tuple #[]) w':=by
  intro w' h;exact .inl (by simp[execOp,resolve,invoke,builtin,h])
 have hden:∀η,Den η (.tup []) (.tuple #[]):=fun η=>by simp only[Den,DenL];exact⟨[],rfl,rfl⟩
 simp only[Den,Env.get]at hdd;rcases hdd with⟨p1,hdv',p3⟩|⟨en,o,p1,hdv',p3,p4,p5⟩
 ·rcases hsat with⟨p6,rfl⟩|⟨en',arr,T,fz,p6,_⟩
  case inr=>rw[p1]at p6;cases p6
  subst p3;refine⟨_,w,η,fin ?_,List.prefix_rfl,?_,hden _,fun h=>by cases h⟩
  ·simp[hdv',Builtin.clear_,Z4 hd]
  ·refine{pre:=A.H.pre,len:=A.H.len,fr:=A.H.fr,sok:=A.H.sok,own:=⟨fun j g hj=>?_,fun j k g g' m hj hk hne f f'=>?_⟩}
   ·rw[Y3 i _ O j (by rw[hh];rfl)]at hj;split at hj
    ·rename_i e;subst e;injection hj with hj;subst hj
     exact⟨Or.inl ⟨p1,by simp⟩,fun k f=>(feet.none (b:= .loc j) p1 f).elim⟩
    ·exact A.H.own.1 j g hj
   ·have aux:∀(j:Nat) (g:Hp) (m:Nat),feet η w (.loc j) g m->lkp j (setK i (.rows (M.C.T.size e) (List.take r []++List.replicate 0 (c::cs)++List.drop (r+0) [])) O)=some g->lkp j O=some g:=by
     intro j g m f hj;rw[Y3 i _ O j (by rw[hh];rfl)]at hj;split at hj
     ·rename_i e;subst e;exact(feet.none (b:= .loc j) p1 f).elim
     ·exact hj
    exact A.H.own.2 j k g g' m (aux j g m f hj) (aux k g' m f' hk) hne f f'
 ·rcases hsat with⟨p6,_⟩|⟨en',arr,T,fz,p6,p7,p8,p9⟩
  ·rw[p1]at p6;cases p6
  rw[p1]at p6;injection p6 with p6;injection p6 with p6;subst p6
  obtain⟨p8u,p8s,p8c,p8b⟩:=p8 trivial;rw[p8b]at p9;have hLL:=Z1M h3 hzl n;have hone:=Z1H h4 n;have hxl:(List.replicate n (c::cs)).length=n:=List.length_replicate;obtain⟨r1,r2⟩:=Wh p8s (r:=r) (xs:=List.replicate n (c::cs)) (by omega) (by omega) p9 hLL hone;by_cases hn0:n=0
  ·subst hn0;refine⟨_,w,η,fin ?_,List.prefix_rfl,?_,hden _,fun h=>by cases h⟩
   ·simp[hdv',Builtin.clear_,Z4 hd]
   ·refine A.H.upd hh p1 (fun k _=>rfl) rfl rfl rfl rfl ?_;simp only[HpSat,Env.get];right
    exact⟨en,arr,T,fz,p1,p7,fun _=>⟨p8u,p8s,by simpa using p8c,p8b⟩,by rw[p8b];simpa using p9⟩
  ·have ho:=p5 (.inl (by omega));rw[p8b,Nat.zero_add]at ho;subst ho;have hst:=YG (P:=M.P) en.g (r*M.C.T.size e) T fz (Xs z.cells.toList n) 0 arr w p7 (by simpa using r1) p8u hone;simp only[Nat.add_zero]at hst
   have hzc:(Builtin.zeroCells z.cells n).toList=Xs z.cells.toList n:=by
    unfold Builtin.zeroCells;exact Vg z.cells n _ (by simp[Nat.mul_comm])
   have hsz':(arr.toList.take (r*M.C.T.size e)++Xs z.cells.toList n++arr.toList.drop (r*M.C.T.size e+(Xs z.cells.toList n).length)).toArray.size=arr.size:=by
    simp only[List.size_toArray,List.length_append,List.length_take,List.length_drop,Array.length_toList];omega
   refine⟨_,w.setRow en.g (arr.toList.take (r*M.C.T.size e)++Xs z.cells.toList n++arr.toList.drop (r*M.C.T.size e+(Xs z.cells.toList n).length)).toArray,η,fin ?_,List.prefix_rfl,A.H.upd hh p1 (fun k hk=>setRow_other w en.g k _ hk) (setRow_size _ _ _) rfl rfl rfl ?_,hden _,fun h=>by cases h⟩
   ·obtain⟨n,rfl⟩:∃m,n=m+1:=⟨n-1,by omega⟩;simp[hdv',Builtin.clear_,Z4 hd,Xw h1 h2,hzc,hst]
   ·simp only[HpSat,Env.get];right
    refine⟨en,_,T,fz,p1,setRow_heap w en.g arr _ T fz p7,fun _=>⟨by rw[hsz'];exact p8u,by rw[hsz'];exact p8s,?_,p8b⟩,by rw[p8b];rw[hxl]at r2;exact r2⟩;simp only[List.length_append,List.length_take,List.length_drop,List.length_replicate];omega
theorem Z4d(A:At M η w O nx ρ lk)(o:Oper)(hr:(opR M.C lk O nx o.op).ok O nx v O' nx'):Y4 M η w o ρ v O' nx':=by
 obtain⟨dst,op,ty,pos,af,gd⟩:=o;cases op with
 |move x=>exact Zgc A x hr
 |assign x=>exact Zcy A x hr
 |pick c a b=>exact Zgd A c a b hr
 |alloc e=>exact ZeS A e hr
 |box e x=>exact Zhk A e x hr
 |build t ps=>exact ZeT A t ps hr
 |buildSlice t l ps=>exact Z5s A t l ps hr
 |load t x=>exact Zgf A t x hr
 |store t x y=>exact ZeV A t x y hr
 |nilCheck x=>exact Z8P A x hr
 |binOp op t x y u=>exact ZeP A op t u x y hr
 |unOp op t x=>exact Zge A op t x hr
 |convert s d x=>exact Zam A s d x hr
 |makeInterface t x=>exact Z1A A t x hr
 |makeFunc f a b=>exact Z8Q A f a b hr
 |makeSlice t l c=>exact Z6M A t l c hr
 |slice t x lo hi mx=>exact ZeQ A t x lo hi mx hr
 |fieldAddr s x f=>exact Z6J A s x f hr
 |field t x f=>exact ZeN A t x f hr
 |indexAddr t x i=>exact Z6I A t x i hr
 |index t x i=>exact ZeO A t x i hr
 |makeMap t r=>exact Zag A t r hr
 |lookup t x i ok=>exact ZcF A t x i ok hr
 |mapUpdate t m k x=>exact Z1O A t m k x hr
 |insert t m k x=>exact ZcG A t m k x hr
 |mapEntry t m k=>exact Z8U A t m k hr
 |entryStore t m k x=>exact Z5y A t m k x hr
 |range t x=>exact ZeW A t x hr
 |next x b=>exact Zgg A x b hr
 |extract x i=>exact Za8 A x i hr
 |typeAssert x t u ok=>exact Zcz A x t u ok hr
 |call c=>
  obtain⟨callee,args,ts⟩:=c;cases callee with
  |builtin b=>
   cases b with
   |len=>exact Zhi A args ts hr
   |append=>exact ZcE A args ts hr
   |cap=>exact Zhj A args ts hr
   |min=>exact Zhl A args ts hr
   |max=>exact Zhm A args ts hr
   |copy=>exact Zgh A args ts hr
   |clear=>exact ZeX A args ts hr
   |_=>exact hr.elim
  |_=>exact hr.elim
 |_=>exact hr.elim
end
end Go.Sx
namespace Go.Sx
open Go
section
variable {M:Mx}{η:Env}{w:World}{O:Hps}{nx:Nat}
theorem FrOK.mono{η η':Env}{a:Act}{fr:Fr}(h:η<+:η')(k:FrOK η a fr):FrOK η' a fr:=fun t sv ht=>(k t sv ht).mono h
theorem Z4e{a:Act}{d:Nat}{u:Value}(h:d<a.tmps.size):(a.put (some d) u).tmps.getD d undef=u:=by
 simp[Act.put,Array.getD,h]
theorem Z1R{a:Act}{d t:Nat}{u:Value}(h:t≠d):(a.put (some d) u).tmps.getD t undef=a.tmps.getD t undef:=by
 simp only[Act.put,Array.getD_eq_getD_getElem?];rw[Array.getElem?_setIfInBounds,if_neg (Ne.symm h)]
theorem Z4f{a:Act}{d:Option Tmp}{u:Value}:(a.put d u).tmps.size=a.tmps.size:=by
 cases d<;>simp[Act.put]
theorem put_defers{a:Act}{d:Option Tmp}{u:Value}:(a.put d u).defers=a.defers:=by
 cases d<;>simp[Act.put]
theorem FrOK.put{a:Act}{fr:Fr}{d:Nat}{u:Value}{v:SV}(k:FrOK η a fr)(hd:d<a.tmps.size)(hv:Den η v u):FrOK η (a.put (some d) u) ((d,v)::fr):=by
 intro t sv ht;rw[Z8]at ht;split at ht
 ·rename_i e;subst e;injection ht with ht;subst ht
  rw[Z4e hd];exact hv
 ·rename_i e;rw[Z1R e];exact k t sv ht
theorem FrOK.know{a:Act}{fr:Fr}{d:Nat}{v:SV}(k:FrOK η a fr)(hv:Den η v (a.tmps.getD d undef)):FrOK η a ((d,v)::fr):=by
 intro t sv ht;rw[Z8]at ht;split at ht
 ·rename_i e;subst e;injection ht with ht;subst ht;exact hv
 ·exact k t sv ht
theorem Z4g{N:Nat}{d:Nat}(h:Jn N (some d)=true):d<N:=by
 simpa[Jn]using h
def Zan:SV->Bool
 | .dfs _=>false
 |_=>true
theorem DfOK.other{η:Env}{ds:List Deferred}{v:SV}(h:Zan v=true):DfOK η ds (some v)<->ds=[]:=by
 cases v<;>first|exact Iff.rfl|cases h
theorem Models.know{fr:Fr}{a:Act}(K:Models M η fr O nx a w){s:Nat}{u v:SV}(hs:lkp s fr=some u)(hu:Zan u=true)(hv:Zan v=true)(hd:Den η v (a.tmps.getD s undef)):Models M η ((s,v)::fr) O nx a w:=by
 refine⟨K.heap,K.size,K.nds,?_,K.ro,K.frame.know hd⟩;have h:=K.defers;rw[Z8];split
 ·rename_i e;rw[e,hs,DfOK.other hu]at h;rw[DfOK.other hv];exact h
 ·exact h
theorem Zen{N d:Nat}{v:SV}{fr:Fr}(hd:Jn N (some d)=true)(hN:N<=DS):lkp DS ((d,v)::fr)=lkp DS fr:=by
 have h1:=Z4g hd;have h2:DS≠d:=fun e=>Nat.lt_irrefl _ (Nat.lt_of_lt_of_le (e▸h1) hN);rw[Z8,if_neg h2]
theorem Vi{η η':Env}(hp:η<+:η')(h:∀l j,M.C.ro=some (l,j)->∃e,η[j]?=some (some e)/\e.g=l):∀l j,M.C.ro=some (l,j)->∃e,η'[j]?=some (some e)/\e.g=l:=fun l j hj=>
 let⟨e,h1,h2⟩:=h l j hj;⟨e,Env.get_mono (b:= .loc j) hp h1,h2⟩
theorem Models.put{fr:Fr}{a:Act}(K:Models M η fr O nx a w){η':Env}{O':Hps}{nx':Nat}{w':World}{d:Option Tmp}{u:Value}{v:SV}(hd:Jn M.C.N d=true)(hp:η<+:η')(hH:HeapOK M η' w' O' nx')(hv:Den η' v u){Kp:Fr->Prop}(hk:putK d v fr Kp):
 ∃fr',Kp fr'/\Models M η' fr' O' nx' (a.put d u) w':=by
 cases d with
 |none=>exact⟨fr,hk,hH,by rw[Z4f];exact K.size,K.nds,by rw[put_defers];exact K.defers.mono hp,Vi hp K.ro,K.frame.mono hp⟩
 |some d=>
  refine⟨(d,v)::fr,hk,hH,by rw[Z4f];exact K.size,K.nds,by rw[put_defers,Zen hd K.nds];exact K.defers.mono hp,Vi hp K.ro,(K.frame.mono hp).put ?_ hv⟩;rw[K.size];exact Z4g hd
theorem Z0R{P:Program}{o:Oper}{ρ:Operand->Value}{w w':World}{u:Value}(h:Z0j P o ρ w u w'):∀c,o.op≠ .defer c:=by
 intro c hc
 have key:∀(n:Next) (w':World),(∀d,n≠ .defer d)->(execOp ρ o).run P w≠ .ok n w':=by
  intro n w' hn he;simp only[execOp,hc,Sem.run_bind]at he;cases hr:(resolve ρ c o.type).run P w with
  |ok d w1=>
   rw[hr]at he;simp only[Result.andThen,Sem.run_pure]at he;injection he with he _;exact hn d he.symm
  |halt x w1=>rw[hr]at he;simp only[Result.andThen]at he;cases he
 rcases h with h|⟨h,_⟩
 ·exact key _ _ (fun d e=>by cases e) h
 ·exact key _ _ (fun d e=>by cases e) h
theorem WY{ro:Option Nat}{ρ:Operand->Value}{o:Oper}{c:Call}(h:o.op= .call c):o.semAt ro ρ=execOp ρ o:=Oper.semAt_eq _ _ _ fun c' hc=>by rw[h]at hc;cases hc
theorem Z1S{P:Program}{o:Oper}{a:Act}{w w':World}{u:Value}{next:Act->World->Prop}{Q:Exit->Act->World->Prop}{F:Fence}(hF:∀f,F.fn f)(h:Z0j P o a.eval w u w')(hn:next (a.put o.dst u) w'):o.wpIn F 0 P a w next Q:=by
 refine⟨fun f _=>hF f,?_⟩;rw[Oper.semAt_eq _ _ _ (Z0R h)];rcases h with h|⟨h,rfl⟩
 ·rw[h];exact hn
 ·rw[h];exact hn
theorem UV{lk:Operand->Option SV}{ρ:Operand->Value}{xs:List Operand}{svs:List SV}(hl:∀x sv,lk x=some sv->Den η sv (ρ x))(h:optAll lk xs=some svs):DenL η svs (xs.map ρ):=WU hl h
theorem Zao{o:Oper}{a:Act}{c:Call}{lk:Operand->Option SV}{f:FuncId}{args:List SV}{K:SV->Hps->Nat->Prop}{next:Act->World->Prop}{Q:Exit->Act->World->Prop}(ho:o.op= .call c)(H:HeapOK M η w O nx)(hl:∀x sv,lk x=some sv->Den η sv (a.eval x))
 (hc:Vf lk c=some (f,args)) (hC:CALL M f args O nx K) (hn:∀v r O' nx' η' w',η<+:η'->HeapOK M η' w' O' nx'->Den η' r v->K r O' nx'->next (a.put o.dst v) w'):o.wpIn M.fence 0 M.P a w next Q:=by
 unfold Vf at hc;split at hc
 case h_2=>cases hc
 rename_i ff hcal;split at hc
 case h_2=>cases hc
 rename_i f' first cap args' hf hargs;simp only[Option.some.injEq,Prod.mk.injEq]at hc;obtain⟨rfl,rfl⟩:=hc;have hfd:=hl _ _ hf;simp only[Den]at hfd;obtain⟨us,vs,hfv,h1,h2⟩:=hfd;have hall:=Yx (Yx h1 (UV hl hargs)) h2
 have hexec:(execOp a.eval o).run M.P w=(callFunc f' ⟨us++c.args.toList.map a.eval++vs⟩).run M.P w:=by
  have:(⟨us⟩++c.args.map a.eval++⟨vs⟩:Array Value)=⟨us++c.args.toList.map a.eval++vs⟩:=by apply Array.ext';simp
  rw[<-this];simp[execOp,ho,resolve,hcal,hfv,Deferred.ofValue,invoke]
 refine⟨fun f _=>M.all f,?_⟩;rw[WY ho,hexec];rcases hC.out η w _ H hall with⟨g,hg,hcalls⟩|⟨v,w',hv,r,O',nx',η',h3,h4,h5,h6⟩
 ·rw[hg];refine⟨(fun h=>by cases h),?_⟩;have hcalls:CallsIn M.fence (0-1) M.P g _ w _:=callsIn_wide.2 hcalls;refine hcalls.mono fun e w' he=>?_;obtain⟨v,rfl,r,O',nx',η',h3,h4,h5,h6⟩:=he;exact hn v r O' nx' η' w' h3 h4 h5 h6
 ·rw[hv];exact hn v r O' nx' η' w' h3 h4 h5 h6
theorem ZcH{o:Oper}{a:Act}{c:Call}{lk:Operand->Option SV}{j:Nat}{args:List SV}{K:SV->Hps->Nat->Prop}{next:Act->World->Prop}{Q:Exit->Act->World->Prop}(ho:o.op= .call c)(H:HeapOK M η w O nx)(hl:∀x sv,lk x=some sv->Den η sv (a.eval x))
 (hc:Z1s lk c=some (j,args)) (hC:YIELD M j args O nx K) (hn:∀v r O' nx' η' w',η<+:η'->HeapOK M η' w' O' nx'->Den η' r v->K r O' nx'->next (a.put o.dst v) w'):o.wpIn M.fence 0 M.P a w next Q:=by
 unfold Z1s at hc;split at hc
 case h_2=>cases hc
 rename_i ff hcal;split at hc
 case h_2=>cases hc
 rename_i j' args' hf hargs;simp only[Option.some.injEq,Prod.mk.injEq]at hc;obtain⟨rfl,rfl⟩:=hc;have hfd:=hl _ _ hf;simp only[Den]at hfd;obtain⟨e,he,hfv⟩:=hfd;have hall:=UV hl hargs;obtain⟨fn,tmps,asg,body,hy,hr⟩:=hC.out η w _ e H hall he
 have hexec:(execOp a.eval o).run M.P w=(Instr.yield e.g ⟨c.args.toList.map a.eval⟩).run M.P w:=by
  have:(#[]++c.args.map a.eval:Array Value)=⟨c.args.toList.map a.eval⟩:=by apply Array.ext';simp
  rw[<-this];simp[execOp,ho,resolve,hcal,hfv,Deferred.ofValue,invoke]
 refine⟨fun f _=>M.all f,?_⟩;rw[WY ho,hexec,hy];refine⟨(fun h=>by cases h),?_⟩;have hr:RoundIn M.fence (0-1) M.P e.g fn tmps asg body w _:=hr;refine hr.mono fun en w' he=>?_;obtain⟨v,rfl,r,O',nx',η',h3,h4,h5,h6⟩:=he;exact hn v r O' nx' η' w' h3 h4 h5 h6
theorem JL(hT:TabOK M.P M.C.T){fr:Fr}{a:Act}(K:Models M η fr O nx a w){o:Oper}{lk:Operand->Option SV}(hl:∀x sv,lk x=some sv->Den η sv (a.eval x)){K':SV->Hps->Nat->Prop}(h:Z1u M o lk O nx K'){next:Act->World->Prop}{Q:Exit->Act->World->Prop}
 (hn:∀u v O' nx' η' w',Jn M.C.N o.dst=true->η<+:η'->HeapOK M η' w' O' nx'->Den η' v u->K' v O' nx'->next (a.put o.dst u) w'):o.wpIn M.fence 0 M.P a w next Q:=by
 unfold Z1u at h;split at h
 ·exact h.out.elim
 rename_i hd
 have main:∀{op:Op},o.op=op->(opR M.C lk O nx op).go O nx K'->o.wpIn M.fence 0 M.P a w next Q:=by
  intro op ho h;subst ho;obtain⟨v,O',nx',h1,h2⟩:=Res.go_ok h;obtain⟨u,w',η',h3,h4,h5,h6,_⟩:=Z4d ⟨K.heap,hT,hl⟩ o h1;exact Z1S M.all h3 (hn u v O' nx' η' w' hd h4 h5 h6 h2)
 split at h
 ·rename_i c ho;split at h
  ·exact main ho h
  ·split at h
   ·rename_i f args hc;rw[XG]at h;refine Zao ho K.heap hl hc h fun v r O' nx' η' w' h1 h2 h3 h4=>?_;rw[Yh,V4]at h4;exact hn v r O' nx' η' w' hd h1 h2 h3 h4
   ·split at h
    ·rename_i j args hc;rw[XG]at h;refine ZcH ho K.heap hl hc h fun v r O' nx' η' w' h1 h2 h3 h4=>?_;rw[Yh,V4]at h4;exact hn v r O' nx' η' w' hd h1 h2 h3 h4
    ·exact h.out.elim
 ·exact main rfl h
theorem Z3k:∀{kp fr:Fr},Za1 kp fr->∀{t:Nat} {v:SV},lkp t kp=some v->lkp t fr=some v
 | [],fr,_,t,v,h=>by simp[lkp]at h
 |(d,u)::r,fr,hk,t,v,h=>by
  rw[Z8]at h;split at h
  ·rename_i e;subst e;injection h with h;subst h;exact hk.1
  ·exact Z3k hk.2 h
theorem Models.kept{kp fr:Fr}{a:Act}(hm:Models M η fr O nx a w)(hk:Za2 kp fr){η':Env}{w':World}{O':Hps}{nx':Nat}(hp:η<+:η')(H:HeapOK M η' w' O' nx'):Models M η' kp O' nx' a w':=
 ⟨H,hm.size,hm.nds,by rw[<-hk.1];exact hm.defers.mono hp,Vi hp hm.ro,fun t v ht=>(hm.frame t v (Z3k hk.2 ht)).mono hp⟩
theorem ZcI{o:Oper}{a:Act}{c:Call}{lk:Operand->Option SV}{f:FuncId}{args:List SV}{KP K:SV->Hps->Nat->Prop}{next:Act->World->Prop}{Q:Exit->Act->World->Prop}(ho:o.op= .call c)(H:HeapOK M η w O nx)(hl:∀x sv,lk x=some sv->Den η sv (a.eval x))
 (hc:Vf lk c=some (f,args)) (hC:CALLE M f args O nx KP K) (hn:∀v r O' nx' η' w',η<+:η'->HeapOK M η' w' O' nx'->Den η' r v->K r O' nx'->next (a.put o.dst v) w')
 (hp:∀v r O' nx' η' w',η<+:η'->HeapOK M η' w' O' nx'->Den η' r v->KP r O' nx'->Q (.panic [{v,recovered:=false}]) a w'):o.wpIn M.fence 0 M.P a w next Q:=by
 unfold Vf at hc;split at hc
 case h_2=>cases hc
 rename_i ff hcal;split at hc
 case h_2=>cases hc
 rename_i f' first cap args' hf hargs;simp only[Option.some.injEq,Prod.mk.injEq]at hc;obtain⟨rfl,rfl⟩:=hc;have hfd:=hl _ _ hf;simp only[Den]at hfd;obtain⟨us,vs,hfv,h1,h2⟩:=hfd;have hall:=Yx (Yx h1 (UV hl hargs)) h2
 have hexec:(execOp a.eval o).run M.P w=(callFunc f' ⟨us++c.args.toList.map a.eval++vs⟩).run M.P w:=by
  have:(⟨us⟩++c.args.map a.eval++⟨vs⟩:Array Value)=⟨us++c.args.toList.map a.eval++vs⟩:=by apply Array.ext';simp
  rw[<-this];simp[execOp,ho,resolve,hcal,hfv,Deferred.ofValue,invoke]
 refine⟨fun f _=>M.all f,?_⟩;rw[WY ho,hexec];rcases hC.out η w _ H hall with⟨g,hg,hcalls⟩|⟨v,w',hv,r,O',nx',η',h3,h4,h5,h6⟩
 ·rw[hg];refine⟨(fun h=>by cases h),?_⟩;have hcalls:CallsIn M.fence (0-1) M.P g _ w _:=callsIn_wide.2 hcalls;refine hcalls.mono fun e w' he=>?_;rcases he with⟨v,rfl,r,O',nx',η',h3,h4,h5,h6⟩|⟨v,rfl,r,O',nx',η',h3,h4,h5,h6⟩
  ·exact hn v r O' nx' η' w' h3 h4 h5 h6
  ·exact hp v r O' nx' η' w' h3 h4 h5 h6
 ·rw[hv];exact hn v r O' nx' η' w' h3 h4 h5 h6
theorem ZcJ(hT:TabOK M.P M.C.T){fr:Fr}{a:Act}(hm:Models M η fr O nx a w){o:Oper}{K':Fr->SV->Hps->Nat->Prop}(h:Z8N M o fr O nx K'){next:Act->World->Prop}{Q:Exit->Act->World->Prop}
 (hn:∀fr' u v O' nx' η' a' w',Jn M.C.N o.dst=true->Models M η' fr' O' nx' a' w'->Den η' v u->K' fr' v O' nx'->next (a'.put o.dst u) w') (hp:∀ch w',Z7O M ch a w'->Q (.panic ch) a w'):o.wpIn M.fence 0 M.P a w next Q:=by
 have hl:∀x sv,Jm fr x=some sv->Den η sv (a.eval x):=fun x sv hx=>Yi hm.frame hx
 have hn0:∀u v O' nx' η' w',Jn M.C.N o.dst=true->η<+:η'->HeapOK M η' w' O' nx'->Den η' v u->K' fr v O' nx'->next (a.put o.dst u) w':=fun u v O' nx' η' w' hd h1 h2 h3 h4=>
  hn fr u v O' nx' η' a w' hd ⟨h2,hm.size,hm.nds,hm.defers.mono h1,Vi h1 hm.ro,hm.frame.mono h1⟩ h3 h4
 unfold Z8N at h;split at h
 ·exact JL hT hm hl h hn0
 rename_i kp X hpx;split at h
 ·exact h.out.elim
 rename_i hd;split at h
 ·rename_i x ho;split at h
  case h_2=>exact h.out.elim
  rename_i t u hx;rw[Yh]at h;have hden:=hl _ _ hx;have hden':=hden;simp only[Den]at hden;obtain⟨y,hv,hy⟩:=hden;refine⟨fun f _=>M.all f,?_⟩;rw[Oper.semAt_eq _ _ _ (fun c' hc=>by rw[ho]at hc;cases hc)]
  have hexec:(execOp a.eval o).run M.P w= .halt (.panic (a.eval x)) w:=by
   rw[hv];simp[execOp,ho,hv,Instr.panic]
  rw[hexec];exact hp _ _ ⟨kp,X,hpx,η,O,nx,_,_,rfl,hm.kept h.1 List.prefix_rfl hm.heap,hden',h.2⟩
 ·rename_i c ho;unfold Zeh at h;split at h
  ·exact h.out.elim
  rename_i hro;split at h
  case h_2=>exact h.out.elim
  rename_i f hcal hargs;split at h
  case h_2=>exact h.out.elim
  rename_i g cap hf;split at h
  case h_2=>exact h.out.elim
  rename_i hds;have hfd:=hl _ _ hf;simp only[Den]at hfd;obtain⟨us,vs,hfv,h1,h2⟩:=hfd;simp only[DenL]at h1;subst h1;have hargs':c.args= #[]:=by apply Array.ext';simpa using hargs
  have hr:M.fence.round=none:=by simp[Mx.fence,hro]
  refine⟨fun f _=>M.all f,?_⟩;rw[hr,Oper.semAt_none]
  have hexec:(execOp a.eval o).run M.P w= .ok (.defer {target:= .fn (.func g) ⟨vs⟩,args:= #[]}) w:=by
   simp[execOp,ho,resolve,hcal,hargs',hfv,Deferred.ofValue]
  rw[hexec];refine hn _ undef YK O nx η {a with defers:={target:= .fn (.func g) ⟨vs⟩,args:= #[]}::a.defers} w hd ⟨hm.heap,hm.size,hm.nds,?_,hm.ro,fun t v ht=>?_⟩ (Jr η) h
  ·rw[Z8,if_pos rfl];have hde:a.defers=[]:=by have:=hm.defers;rw[hds]at this;exact this
   show DfL η _ _
   simp only[DfL];exact⟨[],vs,[],rfl,h2,by rw[hde],rfl⟩
  ·rw[Z8]at ht;split at ht
   ·rename_i e;injection ht with ht;subst ht;simp only[Den]
   ·exact hm.frame t v ht
 ·rename_i c ho;split at h
  ·exact JL hT hm hl h hn0
  ·split at h
   ·rename_i f args hc;rw[XG]at h;refine ZcI ho hm.heap hl hc h (fun v r O' nx' η' w' h1 h2 h3 h4=>?_) fun v r O' nx' η' w' h1 h2 h3 h4=>?_
    ·rw[Yh,V4]at h4;exact hn0 v r O' nx' η' w' hd h1 h2 h3 h4
    ·exact hp _ _ ⟨kp,X,hpx,η',O',nx',v,r,rfl,hm.kept h4.1 h1 h2,h3,h4.2⟩
   ·exact JL hT hm hl h hn0
 ·exact JL hT hm hl h hn0
theorem Ub{ops:Array Oper}{a:Act}{j s:Nat}(h:VJ ops.toList j=some s){b:Bool}(hb:a.tmps.getD s undef= .bool b):yielded ops a.tmps j=some b:=by
 unfold VJ at h;rw[JV]at h;unfold yielded;cases ho:ops.toList[j]? with
 |none=>rw[ho]at h;cases h
 |some o=>
  rw[ho]at h;simp only at h;have ho':ops[j]?=some o:=by simpa using ho
  have hs:s<a.tmps.size:=by
   rcases Nat.lt_or_ge s a.tmps.size with hlt|hge
   ·exact hlt
   ·rw[Array.getD_eq_getD_getElem?,Array.getElem?_eq_none hge]at hb;cases hb
  rw[Array.getD_eq_getD_getElem?,Array.getElem?_eq_getElem hs]at hb;simp only[Option.getD_some]at hb;simp[ho',h,Array.getElem?_eq_getElem hs,hb]
theorem Vj{ops:Array Oper}{a:Act}{j s:Nat}(h:VJ ops.toList j=some s){want:Bool}(hb:a.tmps.getD s undef≠ .bool want):yielded ops a.tmps j≠some want:=by
 unfold VJ at h;rw[JV]at h;unfold yielded;cases ho:ops.toList[j]? with
 |none=>rw[ho]at h;cases h
 |some o=>
  rw[ho]at h;simp only at h;have ho':ops[j]?=some o:=by simpa using ho
  simp only[ho',Option.bind_some,h];intro hy;split at hy
  ·rename_i b hq;injection hy with hy;subst hy;apply hb;rw[Array.getD_eq_getD_getElem?,hq];rfl
  ·cases hy
theorem Js{P:Program}{ops:Array Oper}{Q:Exit->Act->World->Prop}{a:Act}{w:World}{rest:List Oper}{o:Oper}(hw:Region.wanted o (yielded ops a.tmps)=true){F:Fence}(h:o.wpIn F 0 P a w (wpListIn F 0 P ops Q rest) Q):wpListIn F 0 P ops Q (o::rest) a w:=by
 unfold wpListIn;rw[if_pos hw];exact h
theorem JM{P:Program}{ops:Array Oper}{Q:Exit->Act->World->Prop}{a:Act}{w:World}{rest:List Oper}{o:Oper}(hw:¬Region.wanted o (yielded ops a.tmps)=true){F:Fence}(hF:∀f,F.fn f)(h:wpListIn F 0 P ops Q rest (a.put o.dst undef) w):wpListIn F 0 P ops Q (o::rest) a w:=by
 unfold wpListIn;rw[if_neg hw];exact⟨fun f _=>hF f,h⟩
theorem XH{o:Oper}{y:Nat->Option Bool}(h:o.guard=none):Region.wanted o y=true:=by simp[Region.wanted,h]
theorem ZC{o:Oper}{y:Nat->Option Bool}{j:Nat}{b:Bool}(h:o.guard=some (j,b)):Region.wanted o y=true<->y j=some b:=by simp[Region.wanted,h]
theorem WZ(hT:TabOK M.P M.C.T){ops:Array Oper}{Q:Exit->Act->World->Prop}:∀(rest:List Oper) {fr:Fr} {O:Hps} {nx:Nat} {K:Fr->Hps->Nat->Prop},runS M ops.toList rest fr O nx K->
 ∀{η:Env} {a:Act} {w:World},Models M η fr O nx a w->(∀η fr O nx a w,Models M η fr O nx a w->K fr O nx->Q .normal a w)->(∀ch a w,Z7O M ch a w->Q (.panic ch) a w)->wpListIn M.fence 0 M.P ops Q rest a w
 | [],fr,O,nx,K,h,η,a,w,hm,hq,hp=>hq η fr O nx a w hm h
 |o::rest,fr,O,nx,K,h,η,a,w,hm,hq,hpa=>by
  replace h:ZeJ M ops.toList o rest (runS M ops.toList rest) fr O nx K:=h
  unfold ZeJ at h
  have step:∀{fr':Fr},Models M η fr' O nx a w->Z8N M o fr' O nx (fun fr v O nx=>putK o.dst v fr fun fr=>runS M ops.toList rest fr O nx K)->o.wpIn M.fence 0 M.P a w (wpListIn M.fence 0 M.P ops Q rest) Q:=by
   intro fr' hm' h;refine ZcJ hT hm' h (fun fr2 u v O' nx' η' a' w' hd hM hv hk=>?_) fun ch w' hr=>hpa ch a w' hr;obtain⟨fr2,h1,h2⟩:=hM.put hd List.prefix_rfl hM.heap hv hk;exact WZ hT rest h1 h2 hq hpa
  have skip:∀{fr':Fr},Models M η fr' O nx a w->(match Jn M.C.N o.dst with|true=>putK o.dst YK fr' fun fr=>runS M ops.toList rest fr O nx K|false=>STOP "slot")->wpListIn M.fence 0 M.P ops Q rest (a.put o.dst undef) w:=by
   intro fr' hm' h;split at h
   ·rename_i hd;obtain⟨fr2,h1,h2⟩:=hm'.put hd List.prefix_rfl hm'.heap (Jr η) h;exact WZ hT rest h1 h2 hq hpa
   ·exact h.out.elim
  split at h
  ·rename_i hg;exact Js (XH hg) (step hm h)
  ·rename_i j want hg;split at h
   ·exact h.out.elim
   rename_i s hs;split at h
   ·rename_i b hb;have hbv:=YH (hm.frame s _ hb);have hy:=Ub hs hbv;cases b with
    |true=>
     have h:=h.t rfl;have hm':Models M η ((s, .bool true)::fr) O nx a w:=hm.know hb rfl rfl hbv;cases want with
     |true=>exact Js ((ZC hg).2 hy) (step hm' h)
     |false=>exact JM (hF:=M.all) (fun hw=>by rw[ZC hg,hy]at hw;cases hw) (skip hm' h)
    |false=>
     have h:=h.f rfl;have hm':Models M η ((s, .bool false)::fr) O nx a w:=hm.know hb rfl rfl hbv;cases want with
     |false=>exact Js ((ZC hg).2 hy) (step hm' h)
     |true=>exact JM (hF:=M.all) (fun hw=>by rw[ZC hg,hy]at hw;cases hw) (skip hm' h)
   ·rename_i hb;have hbv:=hm.frame s _ hb;simp only[Den,DenL]at hbv;obtain⟨vs,hbv,rfl⟩:=hbv;exact JM (hF:=M.all) (fun hw=>by rw[ZC hg]at hw;exact Vj hs (by rw[hbv];simp) hw) (skip hm h)
   ·exact h.out.elim
end
section
variable {M:Mx}{η:Env}{w:World}{O:Hps}{nx:Nat}
theorem PathOK.sub{a:Act}:∀{p q:List (Nat×Bool)},Z45 p q=true->PathOK a q->PathOK a p
 | [],q,_,_=>fun x hx=>by cases hx
 |(s,b)::p,q,h,hq=>by
  simp only[Z45,Bool.and_eq_true,List.any_eq_true]at h;obtain⟨⟨x,hx,h1⟩,h2⟩:=h;have h3:=Zq h1.1;have h4:x.2=b:=by simpa using h1.2
  intro y hy;rcases List.mem_cons.1 hy with rfl|hy
  ·have:=hq x hx;rw[h3,h4]at this;exact this
  ·exact PathOK.sub h2 hq y hy
theorem VO{a:Act}{fr:Fr}{gs:Gs}{path:List (Nat×Bool)}(hf:FrOK η a fr)(hg:GsOK η a gs)(hp:PathOK a path){x:Operand}{sv:SV}(hx:Z46 fr gs path x=some sv):Den η sv (a.eval x):=by
 cases x with
 |tmp t=>
  simp only[Z46]at hx;split at hx
  ·rename_i q v hq;split at hx
   ·rename_i hs;injection hx with hx;subst hx;exact(hg t q v hq).1 (PathOK.sub hs hp)
   ·cases hx
  ·exact hf t sv hx
 |const v=>exact Yi hf hx
 |global g=>exact Yi hf hx
 |func f=>exact Yi hf hx
theorem Wl{a:Act}{fr:Fr}{gs:Gs}(hf:FrOK η a fr)(hg:GsOK η a gs):∀{path:List (Nat×Bool)} {g:Bool},Wb fr gs path=some g->PathOK a path->g=true
 | [],g,h,_=>by simp only[Wb,Option.some.injEq]at h;exact h.symm
 |(s,want)::r,g,h,hp=>by
  have hpr:PathOK a r:=fun x hx=>hp x (List.mem_cons_of_mem _ hx);simp only[Wb]at h;split at h
  case h_2=>cases h
  rename_i b hb;have hbv:=YH (VO hf hg hpr hb);have hsv:=hp (s,want) (List.mem_cons_self ..);simp only[Act.eval]at hbv;rw[hbv]at hsv;injection hsv with hsv;simp only at hsv;split at h
  case h_2=>cases h
  rename_i x hx;have hxt:=Wl hf hg hx hpr;subst hxt hsv;cases b<;>simp at h<;>exact h
theorem ZcK{a:Act}{gs:Gs}(hg:GsOK η a gs){s:Nat}{want:Bool}(h:a.tmps.getD s undef= .bool want):PathOK a (Z47 gs s want):=by
 intro x hx;unfold Z47 at hx;rcases List.mem_cons.1 hx with rfl|hx
 ·exact h
 ·split at hx
  ·rename_i q v hq;by_cases hp:PathOK a q
   ·exact hp x hx
   ·have:=(hg s q v hq).2 hp;rw[h]at this;cases this
  ·cases hx
theorem PathOK.put{a:Act}{d:Nat}{u:Value}{p:List (Nat×Bool)}(h:Za4 d p=true):PathOK (a.put (some d) u) p<->PathOK a p:=by
 unfold Za4 at h
 have key:∀x∈p,(a.put (some d) u).tmps.getD x.1 undef=a.tmps.getD x.1 undef:=by
  intro x hx;have:=(List.all_eq_true.1 h) x hx;have hne:x.1≠d:=XZ (by simpa using this);exact Z1R hne
 exact⟨fun k x hx=>by rw[<-key x hx];exact k x hx,fun k x hx=>by rw[key x hx];exact k x hx⟩
theorem VP{α:Type}:∀{l:List (Nat×α)} {t:Nat} {v:α},lkp t l=some v->(t,v)∈l
 | [],t,v,h=>by simp[lkp]at h
 |(d,u)::r,t,v,h=>by
  rw[Z8]at h;split at h
  ·rename_i e;subst e;injection h with h;subst h;exact List.mem_cons_self ..
  ·exact List.mem_cons_of_mem _ (VP h)
theorem GsOK.put{a:Act}{gs:Gs}(hg:GsOK η a gs){η':Env}(hp:η<+:η'){d:Option Tmp}{u:Value}(hd:Zek d gs=true):GsOK η' (a.put d u) gs:=by
 cases d with
 |none=>exact fun t p sv h=>⟨fun k=>((hg t p sv h).1 k).mono hp,(hg t p sv h).2⟩
 |some d=>
  intro t p sv h;have hm:=VP h;have:=(List.all_eq_true.1 hd) _ hm;simp only[Bool.and_eq_true]at this;have hne:t≠d:=XZ (by simpa using this.1);have hn:Za4 d p=true:=this.2;rw[PathOK.put hn,Z1R hne];exact⟨fun k=>((hg t p sv h).1 k).mono hp,(hg t p sv h).2⟩
theorem Res.gg_ok{g:Prop}:∀{r:Res} {K:SV->Prop},r.gg g K->∃v,(g->∀O nx,r.ok O nx v O nx)/\K v
 | .val v,K,h=>by simp only[Res.gg,Zcw,Yh]at h;exact⟨v,fun _ _ _=>⟨rfl,rfl,rfl⟩,h⟩
 | .need p k,K,h=>by
   simp only[Res.gg,Zej]at h;obtain⟨v,h1,h2⟩:=Res.gg_ok h.k;exact⟨v,fun hg O nx=>⟨h.p hg,h1 hg O nx⟩,h2⟩
 | .get rs i f,K,h=>by
   simp only[Res.gg,Zg5,Jh]at h;obtain⟨row,hr,h⟩:=h.out;obtain⟨v,h1,h2⟩:=Res.gg_ok h;exact⟨v,fun hg O nx=>⟨row,hr hg,h1 hg O nx⟩,h2⟩
 | .new _ _,_,h=>h.out.elim
 | .upd _ _ _,_,h=>h.out.elim
 | .repl _ _ _,_,h=>h.out.elim
 | .ite _ _ _,_,h=>h.out.elim
 | .fail,_,h=>h.out.elim
theorem Z5z(hT:TabOK M.P M.C.T){a:Act}{fr:Fr}{gs:Gs}{path:List (Nat×Bool)}(H:HeapOK M η w O nx)(hf:FrOK η a fr)(hg:GsOK η a gs)(hp:PathOK a path)(o:Oper){v:SV}{O':Hps}{nx':Nat}(hr:(opG M.C fr gs path O nx o.op).ok O nx v O' nx'):Y4 M η w o a.eval v O' nx':=by
 have A:At M η w O nx a.eval (Z46 fr gs path):=⟨H,hT,fun x sv hx=>VO hf hg hp hx⟩;obtain⟨dst,op,ty,pos,af,gd⟩:=o;cases op with
 |pick c x y=>
  simp only[opG,Zg6]at hr;split at hr
  case h_2=>exact hr.elim
  rename_i s;split at hr
  case h_2=>exact hr.elim
  rename_i b hb;have hbv:=YH (A.L _ _ hb);split at hr
  case h_2=>exact hr.elim
  rename_i p q hx hy;refine A.val hr ⟨.bool (bif b then p else q), .inl ?_,rfl⟩;cases b with
  |true=>
   have h2:=YH (VO hf hg (path:=(s,true)::path) (fun z hz=>by
    rcases List.mem_cons.1 hz with rfl|hz
    ·exact hbv
    ·exact hp z hz) hx)
   simp[execOp,hbv,h2,asBool]
  |false=>
   have h2:=YH (VO hf hg (path:=(s,false)::path) (fun z hz=>by
    rcases List.mem_cons.1 hz with rfl|hz
    ·exact hbv
    ·exact hp z hz) hy)
   simp[execOp,hbv,h2,asBool]
 |_=>exact Z4d A _ hr
theorem Uc(hT:TabOK M.P M.C.T){ops:Array Oper}{Q:Exit->Act->World->Prop}:∀(rest:List Oper) {fr:Fr} {gs:Gs} {O:Hps} {nx:Nat} {K:Fr->Hps->Nat->Prop},runG M ops.toList rest fr gs O nx K->
 ∀{η:Env} {a:Act} {w:World},Models M η fr O nx a w->GsOK η a gs->(∀η fr O nx a w,Models M η fr O nx a w->K fr O nx->Q .normal a w)->wpListIn M.fence 0 M.P ops Q rest a w
 | [],fr,gs,O,nx,K,h,η,a,w,hm,hg,hq=>hq η fr O nx a w hm h
 |o::rest,fr,gs,O,nx,K,h,η,a,w,hm,hg,hq=>by
  replace h:ZeL M ops.toList o rest (runG M ops.toList rest) fr gs O nx K:=h
  unfold ZeL at h;split at h
  ·exact h.out.elim
  rename_i hd;split at h
  ·exact h.out.elim
  rename_i hfresh;split at h
  ·rename_i hgu;refine Js (XH hgu) ?_
   have main:∀{op:Op},o.op=op->((opG M.C fr gs [] O nx op).go O nx fun v O nx=>putK o.dst v fr fun fr=>runG M ops.toList rest fr gs O nx K)->o.wpIn M.fence 0 M.P a w (wpListIn M.fence 0 M.P ops Q rest) Q:=by
    intro op ho h;subst ho;obtain⟨v,O',nx',h1,h2⟩:=Res.go_ok h;obtain⟨u,w',η',h3,h4,h5,h6,_⟩:=Z5z hT hm.heap hm.frame hg (fun x hx=>by cases hx) o h1;obtain⟨fr2,h7,h8⟩:=hm.put hd h4 h5 h6 h2;exact Z1S M.all h3 (Uc hT rest h7 h8 (hg.put h4 hfresh) hq)
   split at h
   ·rename_i c ho;split at h
    ·exact main ho h
    ·split at h
     ·rename_i f args hc;rw[XG]at h;refine Zao ho hm.heap (fun x sv hx=>VO hm.frame hg (fun x hx=>by cases hx) hx) hc h fun v r O' nx' η' w' h1 h2 h3 h4=>?_;rw[Yh,V4]at h4;obtain⟨fr2,h7,h8⟩:=hm.put hd h1 h2 h3 h4;exact Uc hT rest h7 h8 (hg.put h1 hfresh) hq
     ·exact h.out.elim
   ·exact main rfl h
  ·rename_i j want hgu;split at h
   ·exact h.out.elim
   rename_i s hs;split at h
   ·exact h.out.elim
   rename_i d hdd;split at h
   ·exact h.out.elim
   rename_i hnot;split at h
   ·exact h.out.elim
   rename_i g hgb;obtain⟨v,h1,h2⟩:=Res.gg_ok h;rw[hdd]at hd hfresh;have hlt:d<a.tmps.size:=by rw[hm.size];exact Z4g hd
   have next:∀{η':Env} {u:Value} {w':World},η<+:η'->HeapOK M η' w' O nx->(PathOK a (Z47 gs s want)->Den η' v u)->(¬PathOK a (Z47 gs s want)->u=undef)->wpListIn M.fence 0 M.P ops Q rest (a.put o.dst u) w':=by
    intro η' u w' hp hH hv hn;rw[hdd];refine Uc hT rest h2 ⟨hH,by rw[Z4f];exact hm.size,hm.nds,by rw[put_defers,Zen hd hm.nds];exact hm.defers.mono hp,Vi hp hm.ro,(hm.frame.mono hp).put hlt (by simp only[Den])⟩ ?_ hq;intro t p sv ht;rw[Z8]at ht;split at ht
    ·rename_i e;subst e;injection ht with ht;injection ht with ht1 ht2;subst ht1 ht2;rw[PathOK.put hnot,Z4e hlt];exact⟨hv,hn⟩
    ·exact(hg.put (u:=u) hp hfresh) t p sv ht
   by_cases hw:a.tmps.getD s undef= .bool want
   ·have hp:=ZcK hg hw;have hgt:=Wl hm.frame hg hgb hp;obtain⟨u,w',η',h3,h4,h5,h6,_⟩:=Z5z hT hm.heap hm.frame hg hp o (h1 hgt O nx);exact Js ((ZC hgu).2 (Ub hs hw)) (Z1S M.all h3 (next h4 h5 (fun _=>h6) (fun h=>absurd hp h)))
   ·have hnp:¬PathOK a (Z47 gs s want):=fun hp=>hw (hp (s,want) (List.mem_cons_self ..));exact JM (hF:=M.all) (fun hh=>by rw[ZC hgu]at hh;exact Vj hs hw hh) (next List.prefix_rfl hm.heap (fun h=>absurd h hnp) (fun _=>rfl))
theorem Z0S{F:Fence}{P:Program}{Q:Exit->Act->World->Prop}{a:Act}{w:World}{c:Code}(h:c.wpIn F 0 P (Exit.noGoto Q) a w):(Code.scope c).wpIn F 0 P Q a w:=by
 have s1:∀{b:Frame} {a:Act} {k:List Item} {cs:List Frame} {w:World},step P (lone (b.atR a (.code (.scope c)::k)) cs w)= .next (lone (b.atR a (.code c:: .inScope c::k)) cs w):=step_lone_go (by simp[stepG,stepG.exec,Frame.atR]);have s2:∀{b:Frame} {a:Act} {k:List Item} {cs:List Frame} {w:World},step P (lone (b.atR a (.inScope c::k)) cs w)= .next (lone (b.atR a k) cs w):=step_lone_go (by simp[stepG,stepG.exec,Frame.atR]);intro b k cs hro hb hr;have h0:(lone (b.atR a (.code (.scope c)::k)) cs w).fenced P F:=fenced_calm hb hr rfl;obtain⟨e,a₁,w₁,hq,harr⟩:=h b (.inScope c::k) cs hro hb hr;cases e with
 |normal=>exact⟨.normal,a₁,w₁,hq, .head h0 s1 (StepsIn.trans harr (.one (fenced_calm hb hr rfl) s2))⟩
 |exit id=>
  have hx:exitTo id (.inScope c::k)=exitTo id k:=by simp[exitTo]
  exact⟨.exit id,a₁,w₁,hq,fun k' hk=> .head h0 s1 (harr.1 k' (by rw[hx];exact hk)),fun hr' hk=>let⟨k₁,h1,h2⟩:=harr.2 hr' (by rw[hx];exact hk);⟨k₁,h1, .head h0 s1 h2⟩⟩
 |goto l=>exact hq.elim
 |ret=>exact⟨_,a₁,w₁,hq, .of_steps (.one h0 s1) harr⟩
 |panic ch=>exact⟨_,a₁,w₁,hq, .of_steps (.one h0 s1) harr⟩
 |outgrown=>exact⟨_,a₁,w₁,hq, .of_steps (.one h0 s1) harr⟩
theorem Z5A(hT:TabOK M.P M.C.T){id:Nat}{ops:Array Oper}{fr:Fr}{K:Fr->Hps->Nat->Prop}{Q:Exit->Act->World->Prop}
 (h:match guarded ops.toList&&!(Zel ops.toList)&&M.px.isNone with|true=>runG M ops.toList ops.toList fr [] O nx K|false=>runS M ops.toList ops.toList fr O nx K) {a:Act} (hm:Models M η fr O nx a w) (hq:∀η fr O nx a w,Models M η fr O nx a w->K fr O nx->Q .normal a w) (hp:∀ch a w,Z7O M ch a w->Q (.panic ch) a w):
 (Code.region id ops false).wpIn M.fence 0 M.P Q a w:=by
 refine wpIn_region_list ?_;split at h
 ·exact Uc hT _ h hm (fun t p sv ht=>by simp[lkp]at ht) hq
 ·exact WZ hT _ h hm hq hp
theorem ZO(hT:TabOK M.P M.C.T):∀(c:Code) {fr:Fr} {O:Hps} {nx:Nat} {Q:Post},run M c fr O nx Q->Walk M c fr O nx Q
 | .skip,fr,O,nx,Q,h=>fun η a w hm=>wpIn_skip ⟨η,fr,O,nx,hm,h⟩
 | .label l,fr,O,nx,Q,h=>fun η a w hm=>wpIn_label ⟨η,fr,O,nx,hm,h⟩
 | .ret,fr,O,nx,Q,h=>fun η a w hm=>wpIn_ret ⟨η,fr,O,nx,hm,h⟩
 | .exit id,fr,O,nx,Q,h=>fun η a w hm=>wpIn_exit ⟨η,fr,O,nx,hm,h⟩
 | .region id ops draw,fr,O,nx,Q,h=>by
   simp only[run,Za6]at h;cases draw with
   |true=>exact h.out
   |false=>exact fun η a w hm=>Z5A hT h hm (fun η fr O nx a w hm hk=>⟨η,fr,O,nx,hm,hk⟩) fun ch a w h=>h
 | .seq x y,fr,O,nx,Q,h=>fun η a w hm=>by
   refine wpIn_seq (Code.wpIn_mono ?_ (ZO hT x h η a w hm));intro e a w hq;cases e with
   |normal=>obtain⟨η,fr,O,nx,hm,hq⟩:=hq;exact ZO hT y hq η a w hm
   |exit id=>exact hq
   |ret=>exact hq
   |goto l=>exact hq
   |panic ch=>exact hq
   |outgrown=>exact hq
 | .cond c x y,fr,O,nx,Q,h=>fun η a w hm=>by
   simp only[run,Zg8]at h;split at h
   case h_3=>exact h.out.elim
   case h_2 n hb=>
    have hbv:=Yi hm.frame hb;simp only[Den]at hbv;obtain⟨b,hbv,h0⟩:=hbv;split at h
    case h_2=>exact h.out.elim
    rename_i t;refine wpIn_cond_split hbv (fun e=>?_) (fun e=>?_)
    ·subst e;exact ZO hT x (h.t (h0 rfl)) η a w (hm.know (s:=t) (show lkp t fr=_ from hb) rfl rfl hbv)
    ·subst e;exact ZO hT y h.f η a w (hm.know (s:=t) (show lkp t fr=_ from hb) rfl rfl hbv)
   rename_i b hb;have hbv:=YH (Yi hm.frame hb);split at h
   ·rename_i t;refine wpIn_cond_split hbv (fun e=>?_) (fun e=>?_)
    ·subst e;exact ZO hT x (h.t rfl) η a w (hm.know (s:=t) (show lkp t fr=_ from hb) rfl rfl hbv)
    ·subst e;exact ZO hT y (h.f rfl) η a w (hm.know (s:=t) (show lkp t fr=_ from hb) rfl rfl hbv)
   ·refine wpIn_cond_split hbv (fun e=>?_) (fun e=>?_)
    ·subst e;exact ZO hT x (h.t rfl) η a w hm
    ·subst e;exact ZO hT y (h.f rfl) η a w hm
 | .block id body,fr,O,nx,Q,h=>fun η a w hm=>by
   refine wpIn_block (Code.wpIn_mono ?_ (ZO hT body h η a w hm));intro e a w hq;cases e with
   |normal=>exact hq
   |exit i=>
    obtain⟨η,fr,O,nx,hm,hq⟩:=hq;simp only[Exit.inBlock];simp only at hq;split at hq
    ·rename_i e;have e:=Zq e;subst e;rw[if_pos rfl];exact⟨η,fr,O,nx,hm,hq⟩
    ·rename_i e;rw[if_neg (XZ e)];exact⟨η,fr,O,nx,hm,hq⟩
   |ret=>exact hq
   |goto l=>exact hq
   |panic ch=>exact hq
   |outgrown=>exact hq
 | .loop body,fr,O,nx,Q,h=>fun η a w hm b k cs hro hb hr=>
   let⟨e,a',w',hq,harr⟩:=h.out η a w hm b k cs hro
   ⟨e,a',w',hq, .of_steps (.one (fenced_calm hb hr rfl) stepR_loop) harr⟩
 | .scope body,fr,O,nx,Q,h=>fun η a w hm=>by
   refine Z0S (Code.wpIn_mono ?_ (ZO hT body h η a w hm));intro e a w hq;cases e<;>exact hq
 | .rangeFunc f ps asg body,fr,O,nx,Q,h=>h.out
 | .goto _,fr,O,nx,Q,h=>h.out.elim
 | .refuse _,fr,O,nx,Q,h=>h.out.elim
structure GOES(M:Mx)(fr:Fr)(O:Hps)(nx:Nat)(fr':Fr)(O':Hps)(nx':Nat):Prop where
 out:∀η a w,Models M η fr O nx a w->∃η',Models M η' fr' O' nx' a w
theorem LOOP.inv{body:Code}{fr:Fr}{Q:Post}(hT:TabOK M.P M.C.T){X:Type}(P:X->Prop)(I:X->Fr×Hps×Nat)(μ:X->Nat)(x0:X)(hP:P x0)(h0:GOES M fr O nx (I x0).1 (I x0).2.1 (I x0).2.2)
 (hr:∀x,P x->run M body (I x).1 (I x).2.1 (I x).2.2 fun e fr O nx=>match e with
   | .normal=> ∃x',P x'/\μ x'<μ x/\GOES M fr O nx (I x').1 (I x').2.1 (I x').2.2
   |e=>Q e fr O nx):LOOP M body fr O nx Q:=by
 refine⟨fun η a w hm=>?_⟩;obtain⟨η',hm0⟩:=h0.out η a w hm;intro b k cs hro;have hb:M.fence.fn b.fn:=M.all _;have hrm:M.fence.room (cs.length+1+0):=M.room _
 have key:∀n x η a w,P x->μ x=n->Models M η (I x).1 (I x).2.1 (I x).2.2 a w->
  ∃e a' w',Z8M M Q e a' w'/\ArrivesIn (Machine.fenced M.P M.fence) M.P (lone (b.atR a (.code body:: .inLoop body::k)) cs w) b k cs e a' w':=by
  intro n
  induction n using Nat.strongRecOn with
  |_ n ih=>
   intro x η a w hx hn hm;obtain⟨e,a',w',hq,harr⟩:=ZO hT body (hr x hx) η a w hm b (.inLoop body::k) cs hro hb hrm;cases e with
   |normal=>
    obtain⟨η1,fr1,O1,nx1,hm1,x',hx',hlt,hnext⟩:=hq;obtain⟨η2,hm2⟩:=hnext.out η1 a' w' hm1;obtain⟨e2,a2,w2,hq2,harr2⟩:=ih (μ x') (hn▸hlt) x' η2 a' w' hx' rfl hm2;exact⟨e2,a2,w2,hq2, .of_steps (StepsIn.trans harr (.one (fenced_calm hb hrm rfl) stepR_inLoop)) harr2⟩
   |exit id=>
    obtain⟨η1,fr1,O1,nx1,hm1,hq⟩:=hq;exact⟨.exit id,a',w',⟨η1,fr1,O1,nx1,hm1,hq⟩, .pass (x:= .inLoop body) rfl (fun _ _=> .inl (by simp)) harr⟩
   |ret=>
    obtain⟨η1,fr1,O1,nx1,hm1,hq⟩:=hq;exact⟨.ret,a',w',⟨η1,fr1,O1,nx1,hm1,hq⟩, .pass (x:= .inLoop body) rfl (fun _ _=> .inl (by simp)) harr⟩
   |goto l=>exact hq.elim
   |panic ch=>exact⟨.panic ch,a',w',hq, .pass (x:= .inLoop body) rfl (fun _ _=> .inl (by simp)) harr⟩
   |outgrown=>exact hq.elim
 exact key _ x0 η' a w hP rfl hm0
theorem LOOP.once{body:Code}{fr:Fr}{Q:Post}(hT:TabOK M.P M.C.T)
 (hr:run M body fr O nx fun e fr O nx=>match e with
   | .normal=>LOOP M body fr O nx Q
   |e=>Q e fr O nx):LOOP M body fr O nx Q:=by
 refine⟨fun η a w hm=>?_⟩;intro b k cs hro;have hb:M.fence.fn b.fn:=M.all _;have hrm:M.fence.room (cs.length+1+0):=M.room _;obtain⟨e,a',w',hq,harr⟩:=ZO hT body hr η a w hm b (.inLoop body::k) cs hro hb hrm;cases e with
 |normal=>
  obtain⟨η1,fr1,O1,nx1,hm1,hq⟩:=hq;obtain⟨e2,a2,w2,hq2,harr2⟩:=hq.out η1 a' w' hm1 b k cs hro;exact⟨e2,a2,w2,hq2, .of_steps (StepsIn.trans harr (.one (fenced_calm hb hrm rfl) stepR_inLoop)) harr2⟩
 |exit id=>
  obtain⟨η1,fr1,O1,nx1,hm1,hq⟩:=hq;exact⟨.exit id,a',w',⟨η1,fr1,O1,nx1,hm1,hq⟩,(.pass (x:= .inLoop body) rfl (fun _ _=> .inl (by simp)) harr)⟩
 |ret=>
  obtain⟨η1,fr1,O1,nx1,hm1,hq⟩:=hq;exact⟨.ret,a',w',⟨η1,fr1,O1,nx1,hm1,hq⟩,(.pass (x:= .inLoop body) rfl (fun _ _=> .inl (by simp)) harr)⟩
 |goto l=>exact hq.elim
 |panic ch=>exact⟨.panic ch,a',w',hq, .pass (x:= .inLoop body) rfl (fun _ _=> .inl (by simp)) harr⟩
 |outgrown=>exact hq.elim
end
def renB(σ:Nat->Nat):Blk->Blk
 | .glob g=> .glob g
 | .loc i=> .loc (σ i)
mutual
def ren(σ:Nat->Nat):SV->SV
 | .bool b=> .bool b
 | .int k n=> .int k n
 | .str s=> .str s
 | .ptr b r es c=> .ptr (renB σ b) r es c
 | .sl b r es len lim=> .sl (renB σ b) r es len lim
 | .val v=> .val v
 | .agg cs=> .agg (renL σ cs)
 | .arr es rs=> .arr es (X9 σ rs)
 | .tup vs=> .tup (renL σ vs)
 | .ifc t v=> .ifc t (ren σ v)
 | .fn f a b=> .fn f (renL σ a) (renL σ b)
 | .mp b=> .mp (renB σ b)
 | .any=> .any
 | .nb n=> .nb n
 | .yf b=> .yf (renB σ b)
 | .dfs l=> .dfs (renL σ l)
def renL(σ:Nat->Nat):List SV->List SV
 | []=>[]
 |c::cs=>ren σ c::renL σ cs
def X9(σ:Nat->Nat):List (List SV)->List (List SV)
 | []=>[]
 |r::rs=>renL σ r::X9 σ rs
end
def renF(σ:Nat->Nat):Fr->Fr
 | []=>[]
 |(t,v)::r=>(t,ren σ v)::renF σ r
def renC(σ:Nat->Nat):DC->DC
 | .v s=> .v (ren σ s)
 | .kid es rows=> .kid es (X9 σ rows)
def Wm(σ:Nat->Nat):List DC->List DC
 | []=>[]
 |c::cs=>renC σ c::Wm σ cs
def Xo(σ:Nat->Nat):List (List DC)->List (List DC)
 | []=>[]
 |r::rs=>Wm σ r::Xo σ rs
theorem Z1T(σ:Nat->Nat):∀r:List DC,Wm σ r=r.map (renC σ)
 | []=>rfl
 |c::cs=>by simp only[Wm,List.map_cons,Z1T σ cs]
theorem Z00(σ:Nat->Nat):∀rs:List (List DC),Xo σ rs=rs.map (Wm σ)
 | []=>rfl
 |c::cs=>by simp only[Xo,List.map_cons,Z00 σ cs]
theorem Z7W(σ:Nat->Nat):∀r:List SV,renL σ r=r.map (ren σ)
 | []=>rfl
 |c::cs=>by simp only[renL,List.map_cons,Z7W σ cs]
theorem Z5B(σ:Nat->Nat):∀rs:List (List SV),X9 σ rs=rs.map (renL σ)
 | []=>rfl
 |c::cs=>by simp only[X9,List.map_cons,Z5B σ cs]
theorem Zap(σ:Nat->Nat)(c:DC):Ye (renC σ c)=ren σ (Ye c):=by cases c<;>rfl
theorem V8(σ:Nat->Nat)(rs:List (List DC)):ZD (Xo σ rs)=X9 σ (ZD rs):=by
 rw[Z00,Z5B];unfold ZD;rw[List.map_map,List.map_map];refine List.map_congr_left fun r _=>?_;simp only[Function.comp,Z1T,Z7W,List.map_map];exact List.map_congr_left fun c _=>Zap σ c
theorem Jt(σ:Nat->Nat)(rs:List (List DC))(i j:Nat):YD (Xo σ rs) i j=(YD rs i j).map fun x=>(x.1,X9 σ x.2):=by
 unfold YD;rw[Z00,List.getElem?_map];cases rs[i]? with
 |none=>rfl
 |some row=>
  simp only[Option.map_some,Z1T,List.getElem?_map];cases row[j]? with
  |none=>rfl
  |some c=>cases c<;>rfl
def renH(σ:Nat->Nat):Hp->Hp
 | .box row=> .box (renL σ row)
 | .rows es rs=> .rows es (X9 σ rs)
 | .siter s p=> .siter s p
 | .tbl vs=> .tbl vs
 | .bld T e l=> .bld T e l
 | .dfr f=> .dfr f
 | .lp st li fr=> .lp st li (renF σ fr)
 | .mp rs=> .mp (X9 σ rs)
 | .deep mp es rs=> .deep mp es (Xo σ rs)
theorem ZV{α:Type}(f:α->List SV)(h:∀x,YC (f x)=true):∀xs:List α,Zo (xs.map f)=true
 | []=>rfl
 |x::xs=>by simp only[List.map_cons,Zo,h x,ZV f h xs,Bool.and_self]
theorem UD:∀{xs ys:List (List SV)},Zo xs=true->Zo ys=true->Zo (xs++ys)=true
 | [],ys,_,h=>h
 |x::xs,ys,h,k=>by
  simp only[Zo,Bool.and_eq_true]at h;simp only[List.cons_append,Zo,h.1,UD h.2 k,Bool.and_self]
mutual
theorem J0(σ:Nat->Nat):∀{v:SV},plain v=true->ren σ v=v
 | .bool _,_=>rfl
 | .int _ _,_=>rfl
 | .str _,_=>rfl
 | .val _,_=>rfl
 | .any,_=>rfl
 | .nb _,_=>rfl
 | .ptr (.glob _) _ _ _,_=>rfl
 | .ptr (.loc _) _ _ _,h=>by simp[plain]at h
 | .sl (.glob _) _ _ _ _,_=>rfl
 | .sl (.loc _) _ _ _ _,h=>by simp[plain]at h
 | .agg cs,h=>by simp only[plain]at h;simp only[ren,Yd σ h]
 | .arr _ rs,h=>by simp only[plain]at h;simp only[ren,ZF σ h]
 | .tup vs,h=>by simp only[plain]at h;simp only[ren,Yd σ h]
 | .ifc _ v,h=>by simp only[plain]at h;simp only[ren,J0 σ h]
 | .fn _ a b,h=>by simp only[plain,Bool.and_eq_true]at h;simp only[ren,Yd σ h.1,Yd σ h.2]
 | .mp (.glob _),_=>rfl
 | .mp (.loc _),h=>by simp[plain]at h
 | .yf _,h=>by simp[plain]at h
 | .dfs _,h=>by simp[plain]at h
theorem Yd(σ:Nat->Nat):∀{vs:List SV},YC vs=true->renL σ vs=vs
 | [],_=>rfl
 |c::cs,h=>by simp only[YC,Bool.and_eq_true]at h;simp only[renL,J0 σ h.1,Yd σ h.2]
theorem ZF(σ:Nat->Nat):∀{vs:List (List SV)},Zo vs=true->X9 σ vs=vs
 | [],_=>rfl
 |c::cs,h=>by simp only[Zo,Bool.and_eq_true]at h;simp only[X9,Yd σ h.1,ZF σ h.2]
end
theorem Z01(σ:Nat->Nat):∀{fr:Fr},Z3a fr=true->renF σ fr=fr
 | [],_=>rfl
 |(t,v)::r,h=>by simp only[Z3a,Bool.and_eq_true]at h;simp only[renF,J0 σ h.1,Z01 σ h.2]
theorem Z3l(σ:Nat->Nat):∀{c:DC},VD c=true->renC σ c=c
 | .v s,h=>by simp only[VD]at h;simp only[renC,J0 σ h]
 | .kid _ rs,h=>by simp only[VD]at h;simp only[renC,ZF σ h]
theorem Vk(σ:Nat->Nat):∀{r:List DC},YP r=true->Wm σ r=r
 | [],_=>rfl
 |c::cs,h=>by simp only[YP,Bool.and_eq_true]at h;simp only[Wm,Z3l σ h.1,Vk σ h.2]
theorem JN(σ:Nat->Nat):∀{r:List (List DC)},ZH r=true->Xo σ r=r
 | [],_=>rfl
 |c::cs,h=>by simp only[ZH,Bool.and_eq_true]at h;simp only[Xo,Vk σ h.1,JN σ h.2]
theorem Zb(σ:Nat->Nat){h:Hp}(p:JG h=true):renH σ h=h:=by
 cases h<;>simp only[JG]at p<;>simp only[renH,Yd σ,ZF σ,Z01 σ,JN σ,p]
section
variable {η η':Env}{σ:Nat->Nat}
def Fwd(η η':Env)(σ:Nat->Nat):Prop:=∀i x,η[i]?=some x->η'[σ i]?=some x
theorem Fwd.get(h:Fwd η η' σ){b:Blk}{x:Option Ent}(hb:η.get b=some x):η'.get (renB σ b)=some x:=by
 cases b with
 |glob g=>exact hb
 |loc i=>exact h i x hb
mutual
theorem Den.ren(h:Fwd η η' σ):∀{sv:SV} {v:Value},Den η sv v->Den η' (ren σ sv) v
 | .bool _,_,d=>d
 | .int _ _,_,d=>d
 | .str _,_,d=>d
 | .ptr b r es c,v,d=>by
   simp only[Den,Go.Sx.ren]at d⊢;obtain⟨e,h1,h2⟩:=d;exact⟨e,h.get h1,h2⟩
 | .sl b r es len lim,v,d=>by
   simp only[Den,Go.Sx.ren]at d⊢;rcases d with⟨h1,h2⟩|⟨e,o,h1,h2⟩
   ·exact .inl ⟨h.get h1,h2⟩
   ·exact .inr ⟨e,o,h.get h1,h2⟩
 | .val _,_,d=>d
 | .agg cs,v,d=>by
   simp only[Den,Go.Sx.ren]at d⊢;obtain⟨vs,h1,h2,h3⟩:=d;exact⟨vs,h1,DenL.ren h h2,h3⟩
 | .arr es rs,v,d=>by
   simp only[Den,Go.Sx.ren]at d⊢;obtain⟨vs,h1,h2,h3⟩:=d;exact⟨vs,h1,DenLL.ren h h2,h3⟩
 | .tup ts,v,d=>by
   simp only[Den,Go.Sx.ren]at d⊢;obtain⟨vs,h1,h2⟩:=d;exact⟨vs,h1,DenL.ren h h2⟩
 | .ifc t x,v,d=>by
   simp only[Den,Go.Sx.ren]at d⊢;obtain⟨u,h1,h2⟩:=d;exact⟨u,h1,Den.ren h h2⟩
 | .fn f a b,v,d=>by
   simp only[Den,Go.Sx.ren]at d⊢;obtain⟨us,vs,h1,h2,h3⟩:=d;exact⟨us,vs,h1,DenL.ren h h2,DenL.ren h h3⟩
 | .mp b,v,d=>by
   simp only[Den,Go.Sx.ren]at d⊢;obtain⟨e,h1,h2⟩:=d;exact⟨e,h.get h1,h2⟩
 | .yf b,v,d=>by
   simp only[Den,Go.Sx.ren]at d⊢;obtain⟨e,h1,h2⟩:=d;exact⟨e,h.get h1,h2⟩
 | .dfs _,_,d=>d
 | .any,_,d=>d
 | .nb _,_,d=>d
theorem DenL.ren(h:Fwd η η' σ):∀{cs:List SV} {vs:List Value},DenL η cs vs->DenL η' (renL σ cs) vs
 | [],_,d=>d
 |c::cs,vs,d=>by
  simp only[DenL,renL]at d⊢;obtain⟨u,us,h1,h2,h3⟩:=d;exact⟨u,us,h1,Den.ren h h2,DenL.ren h h3⟩
theorem DenLL.ren{es:Nat}(h:Fwd η η' σ):∀{rs:List (List SV)} {vs:List Value},DenLL η es rs vs->DenLL η' es (X9 σ rs) vs
 | [],_,d=>d
 |r::rs,vs,d=>by
  simp only[DenLL,X9]at d⊢;obtain⟨us,ws,h1,h2,h3,h4⟩:=d;exact⟨us,ws,h1,h2,DenL.ren h h3,DenLL.ren h h4⟩
end
def Bwd(η η':Env)(σ:Nat->Nat)(k:Nat):Prop:=∀i x,i<k->η[σ i]?=some x->η'[i]?=some x
mutual
def ZR(k:Nat):SV->Bool
 | .bool _| .int _ _| .str _| .val _| .any| .nb _=>true
 | .ptr b _ _ _=>Wn k b
 | .sl b _ _ _ _=>Wn k b
 | .agg cs=>ZS k cs
 | .arr _ rs=>Ys k rs
 | .tup vs=>ZS k vs
 | .ifc _ v=>ZR k v
 | .fn _ a b=>ZS k a&&ZS k b
 | .mp b=>Wn k b
 | .yf b=>Wn k b
 | .dfs l=>ZS k l
def ZS(k:Nat):List SV->Bool
 | []=>true
 |c::cs=>ZR k c&&ZS k cs
def Ys(k:Nat):List (List SV)->Bool
 | []=>true
 |r::rs=>ZS k r&&Ys k rs
def Wn(k:Nat):Blk->Bool
 | .glob _=>true
 | .loc i=>Nat.blt i k
end
def UE(k:Nat):Fr->Bool
 | []=>true
 |(_,v)::r=>ZR k v&&UE k r
def Wo(k:Nat):DC->Bool
 | .v s=>ZR k s
 | .kid _ rs=>Ys k rs
def Xg(k:Nat):List DC->Bool
 | []=>true
 |c::cs=>Wo k c&&Xg k cs
def Yl(k:Nat):List (List DC)->Bool
 | []=>true
 |r::rs=>Xg k r&&Yl k rs
def Zs(k:Nat):Hp->Bool
 | .box row=>ZS k row
 | .rows _ rs=>Ys k rs
 | .siter _ _=>true
 | .tbl _=>true
 | .bld _ _ _=>true
 | .mp rs=>Ys k rs
 | .dfr _=>true
 | .lp _ _ fr=>UE k fr
 | .deep _ _ rs=>Yl k rs
mutual
theorem XI(k:Nat):∀{v:SV},plain v=true->ZR k v=true
 | .bool _,_=>rfl
 | .int _ _,_=>rfl
 | .str _,_=>rfl
 | .val _,_=>rfl
 | .any,_=>rfl
 | .nb _,_=>rfl
 | .ptr (.glob _) _ _ _,_=>rfl
 | .ptr (.loc _) _ _ _,h=>by simp[plain]at h
 | .sl (.glob _) _ _ _ _,_=>rfl
 | .sl (.loc _) _ _ _ _,h=>by simp[plain]at h
 | .agg cs,h=>by simp only[plain]at h;simp only[ZR,ZM k h]
 | .arr _ rs,h=>by simp only[plain]at h;simp only[ZR,Zd k h]
 | .tup vs,h=>by simp only[plain]at h;simp only[ZR,ZM k h]
 | .ifc _ v,h=>by simp only[plain]at h;simp only[ZR,XI k h]
 | .fn _ a b,h=>by simp only[plain,Bool.and_eq_true]at h;simp only[ZR,ZM k h.1,ZM k h.2,Bool.and_self]
 | .mp (.glob _),_=>rfl
 | .mp (.loc _),h=>by simp[plain]at h
 | .yf _,h=>by simp[plain]at h
 | .dfs _,h=>by simp[plain]at h
theorem ZM(k:Nat):∀{vs:List SV},YC vs=true->ZS k vs=true
 | [],_=>rfl
 |c::cs,h=>by simp only[YC,Bool.and_eq_true]at h;simp only[ZS,XI k h.1,ZM k h.2,Bool.and_self]
theorem Zd(k:Nat):∀{vs:List (List SV)},Zo vs=true->Ys k vs=true
 | [],_=>rfl
 |c::cs,h=>by simp only[Zo,Bool.and_eq_true]at h;simp only[Ys,ZM k h.1,Zd k h.2,Bool.and_self]
end
theorem VQ(k:Nat):∀{fr:Fr},Z3a fr=true->UE k fr=true
 | [],_=>rfl
 |(t,v)::r,h=>by simp only[Z3a,Bool.and_eq_true]at h;simp only[UE,XI k h.1,VQ k h.2,Bool.and_self]
theorem Z0r(k:Nat):∀{c:DC},VD c=true->Wo k c=true
 | .v s,h=>by simp only[VD]at h;simp only[Wo,XI k h]
 | .kid _ rs,h=>by simp only[VD]at h;simp only[Wo,Zd k h]
theorem Jd(k:Nat):∀{r:List DC},YP r=true->Xg k r=true
 | [],_=>rfl
 |c::cs,h=>by simp only[YP,Bool.and_eq_true]at h;simp only[Xg,Z0r k h.1,Jd k h.2,Bool.and_self]
theorem XU(k:Nat):∀{r:List (List DC)},ZH r=true->Yl k r=true
 | [],_=>rfl
 |c::cs,h=>by simp only[ZH,Bool.and_eq_true]at h;simp only[Yl,Jd k h.1,XU k h.2,Bool.and_self]
theorem J1(k:Nat){h:Hp}(p:JG h=true):Zs k h=true:=by
 cases h<;>simp only[JG]at p<;>simp only[Zs,ZM k,Zd k,VQ k,XU k,p]
variable {k:Nat}
theorem Bwd.get(h:Bwd η η' σ k){b:Blk}{x:Option Ent}(hk:Wn k b=true)(hb:η.get (renB σ b)=some x):η'.get b=some x:=by
 cases b with
 |glob g=>exact hb
 |loc i=>exact h i x (by simpa[Wn]using hk) hb
mutual
theorem Den.unren(h:Bwd η η' σ k):∀{sv:SV} {v:Value},ZR k sv=true->Den η (ren σ sv) v->Den η' sv v
 | .bool _,_,_,d=>d
 | .int _ _,_,_,d=>d
 | .str _,_,_,d=>d
 | .ptr b r es c,v,hk,d=>by
   simp only[Den,Go.Sx.ren]at d⊢;obtain⟨e,h1,h2⟩:=d;exact⟨e,h.get (by simpa[ZR]using hk) h1,h2⟩
 | .sl b r es len lim,v,hk,d=>by
   simp only[Den,Go.Sx.ren]at d⊢;rcases d with⟨h1,h2⟩|⟨e,o,h1,h2⟩
   ·exact .inl ⟨h.get (by simpa[ZR]using hk) h1,h2⟩
   ·exact .inr ⟨e,o,h.get (by simpa[ZR]using hk) h1,h2⟩
 | .val _,_,_,d=>d
 | .agg cs,v,hk,d=>by
   simp only[ZR]at hk;simp only[Den,Go.Sx.ren]at d⊢;obtain⟨vs,h1,h2,h3⟩:=d;exact⟨vs,h1,DenL.unren h hk h2,h3⟩
 | .arr es rs,v,hk,d=>by
   simp only[ZR]at hk;simp only[Den,Go.Sx.ren]at d⊢;obtain⟨vs,h1,h2,h3⟩:=d;exact⟨vs,h1,DenLL.unren h hk h2,h3⟩
 | .tup ts,v,hk,d=>by
   simp only[ZR]at hk;simp only[Den,Go.Sx.ren]at d⊢;obtain⟨vs,h1,h2⟩:=d;exact⟨vs,h1,DenL.unren h hk h2⟩
 | .ifc t x,v,hk,d=>by
   simp only[ZR]at hk;simp only[Den,Go.Sx.ren]at d⊢;obtain⟨u,h1,h2⟩:=d;exact⟨u,h1,Den.unren h hk h2⟩
 | .fn f a b,v,hk,d=>by
   simp only[ZR,Bool.and_eq_true]at hk;simp only[Den,Go.Sx.ren]at d⊢;obtain⟨us,vs,h1,h2,h3⟩:=d;exact⟨us,vs,h1,DenL.unren h hk.1 h2,DenL.unren h hk.2 h3⟩
 | .mp b,v,hk,d=>by
   simp only[Den,Go.Sx.ren]at d⊢;obtain⟨e,h1,h2⟩:=d;exact⟨e,h.get (by simpa[ZR]using hk) h1,h2⟩
 | .yf b,v,hk,d=>by
   simp only[Den,Go.Sx.ren]at d⊢;obtain⟨e,h1,h2⟩:=d;exact⟨e,h.get (by simpa[ZR]using hk) h1,h2⟩
 | .dfs _,_,_,d=>d
 | .any,_,_,d=>d
 | .nb _,_,_,d=>d
theorem DenL.unren(h:Bwd η η' σ k):∀{cs:List SV} {vs:List Value},ZS k cs=true->DenL η (renL σ cs) vs->DenL η' cs vs
 | [],_,_,d=>d
 |c::cs,vs,hk,d=>by
  simp only[ZS,Bool.and_eq_true]at hk;simp only[DenL,renL]at d⊢;obtain⟨u,us,h1,h2,h3⟩:=d;exact⟨u,us,h1,Den.unren h hk.1 h2,DenL.unren h hk.2 h3⟩
theorem DenLL.unren{es:Nat}(h:Bwd η η' σ k):∀{rs:List (List SV)} {vs:List Value},Ys k rs=true->DenLL η es (X9 σ rs) vs->DenLL η' es rs vs
 | [],_,_,d=>d
 |r::rs,vs,hk,d=>by
  simp only[Ys,Bool.and_eq_true]at hk;simp only[DenLL,X9]at d⊢;obtain⟨us,ws,h1,h2,h3,h4⟩:=d;exact⟨us,ws,h1,h2,DenL.unren h hk.1 h3,DenLL.unren h hk.2 h4⟩
end
theorem Z4h:∀{row:List SV} {j:Nat},(renL σ row)[j]?=(row[j]?).map (ren σ)
 | [],j=>by simp[renL]
 |c::cs,0=>by simp[renL]
 |c::cs,j+1=>by simp[renL,Z4h (row:=cs) (j:=j)]
theorem Vl:∀{row:List SV},(renL σ row).length=row.length
 | []=>rfl
 |c::cs=>by simp[renL,Vl (row:=cs)]
theorem YS:∀{rs:List (List SV)} {j:Nat},(X9 σ rs)[j]?=(rs[j]?).map (renL σ)
 | [],j=>by simp[X9]
 |c::cs,0=>by simp[X9]
 |c::cs,j+1=>by simp[X9,YS (rs:=cs) (j:=j)]
theorem Y7:∀{row:List (List SV)},(X9 σ row).length=row.length
 | []=>rfl
 |c::cs=>by simp[X9,Y7 (row:=cs)]
theorem Z3m:∀{row:List SV} {j:Nat} {c:SV},ZS k row=true->row[j]?=some c->ZR k c=true
 | [],j,c,_,h=>by simp at h
 |d::cs,0,c,hk,h=>by simp only[ZS,Bool.and_eq_true]at hk;simp at h;subst h;exact hk.1
 |d::cs,j+1,c,hk,h=>by simp only[ZS,Bool.and_eq_true]at hk;simp at h;exact Z3m hk.2 h
theorem XJ:∀{rs:List (List SV)} {j:Nat} {c:List SV},Ys k rs=true->rs[j]?=some c->ZS k c=true
 | [],j,c,_,h=>by simp at h
 |d::cs,0,c,hk,h=>by simp only[Ys,Bool.and_eq_true]at hk;simp at h;subst h;exact hk.1
 |d::cs,j+1,c,hk,h=>by simp only[Ys,Bool.and_eq_true]at hk;simp at h;exact XJ hk.2 h
theorem CellsAt.ren(h:Fwd η η' σ){arr:Array Value}{o:Nat}{row:List SV}(d:CellsAt η arr o row):CellsAt η' arr o (renL σ row):=by
 intro j sv hj;rw[Z4h]at hj;cases hr:row[j]? with
 |none=>rw[hr]at hj;cases hj
 |some c=>
  rw[hr]at hj;simp only[Option.map_some,Option.some.injEq]at hj;subst hj;obtain⟨v,h1,h2,h3⟩:=d j c hr;exact⟨v,h1,h2,h3.ren h⟩
theorem CellsAt.unren(h:Bwd η η' σ k){arr:Array Value}{o:Nat}{row:List SV}(hk:ZS k row=true)(d:CellsAt η arr o (renL σ row)):CellsAt η' arr o row:=by
 intro j sv hj;obtain⟨v,h1,h2,h3⟩:=d j (Go.Sx.ren σ sv) (by rw[Z4h,hj];rfl);exact⟨v,h1,h2,h3.unren h (Z3m hk hj)⟩
theorem Z7X:∀{fr:Fr} {t:Nat} {v:SV},lkp t (renF σ fr)=some v->∃u,lkp t fr=some u/\v=ren σ u
 | [],t,v,h=>by simp[renF,lkp]at h
 |(d,u)::r,t,v,h=>by
  simp only[renF]at h;rw[Z8]at h⊢;split at h
  ·rename_i e;subst e;injection h with h;exact⟨u,by simp,h.symm⟩
  ·rename_i e;rw[if_neg e];exact Z7X h
theorem Z5C:∀{fr:Fr} {t:Nat} {u:SV},lkp t fr=some u->lkp t (renF σ fr)=some (ren σ u)
 | [],t,v,h=>by simp[lkp]at h
 |(d,u)::r,t,v,h=>by
  simp only[renF];rw[Z8]at h⊢;split at h
  ·rename_i e;subst e;injection h with h;subst h;rw[if_pos rfl]
  ·rename_i e;rw[if_neg e];exact Z5C h
theorem Z3n:∀{fr:Fr} {t:Nat} {v:SV},UE k fr=true->lkp t fr=some v->ZR k v=true
 | [],t,v,_,h=>by simp[lkp]at h
 |(d,u)::r,t,v,hb,h=>by
  simp only[UE,Bool.and_eq_true]at hb;rw[Z8]at h;split at h
  ·injection h with h;subst h;exact hb.1
  ·exact Z3n hb.2 h
theorem TmpsOK.ren(h:Fwd η η' σ){tmps:Array Value}{fr:Fr}(d:TmpsOK η tmps fr):TmpsOK η' tmps (renF σ fr):=fun t sv ht=>by
 obtain⟨u,h1,rfl⟩:=Z7X ht;exact(d t u h1).ren h
theorem TmpsOK.unren(h:Bwd η η' σ k){tmps:Array Value}{fr:Fr}(hk:UE k fr=true)(d:TmpsOK η tmps (renF σ fr)):TmpsOK η' tmps fr:=fun t sv ht=>
 (d t _ (Z5C ht)).unren h (Z3n hk ht)
theorem LpSat.ren(h:Fwd η η' σ){r:Loop}{st:LpS}{li:LpI}{fr:Fr}(d:LpSat η r st li fr):LpSat η' r st li (renF σ fr):=
 let⟨h1,h2,h3,h4,h5,h6,h7⟩:=d;⟨h1,h2,h3,h4,h5,h6,h7.ren h⟩
theorem LpSat.unren(h:Bwd η η' σ k){r:Loop}{st:LpS}{li:LpI}{fr:Fr}(hk:UE k fr=true)(d:LpSat η r st li (renF σ fr)):LpSat η' r st li fr:=
 let⟨h1,h2,h3,h4,h5,h6,h7⟩:=d;⟨h1,h2,h3,h4,h5,h6,h7.unren h hk⟩
theorem DfL.unren(h:Bwd η η' σ k):∀{l:List SV} {ds:List Deferred},ZS k l=true->DfL η (renL σ l) ds->DfL η' l ds
 | [],ds,_,d=>d
 |c::l,ds,hk,d=>by
  simp only[ZS,Bool.and_eq_true]at hk;cases c with
  |ptr b _ _ _=>
   simp only[DfL,renL,Go.Sx.ren]at d⊢;obtain⟨e,r,h1,h2,h3⟩:=d;exact⟨e,r,h.get (by simpa[ZR]using hk.1) h1,h2,DfL.unren h hk.2 h3⟩
  |val v=>
   simp only[DfL,renL,Go.Sx.ren]at d⊢;obtain⟨f,r,h1,h2,h3⟩:=d;exact⟨f,r,h1,h2,DfL.unren h hk.2 h3⟩
  |fn f x y=>
   simp only[DfL,renL,Go.Sx.ren]at d⊢;obtain⟨us,vs,r,h1,h2,h3,h4⟩:=d;have hb:ZS k x=true/\ZS k y=true:=by simpa[ZR]using hk.1
   exact⟨us,vs,r,DenL.unren h hb.1 h1,DenL.unren h hb.2 h2,h3,DfL.unren h hk.2 h4⟩
  |_=>simp only[DfL,renL,Go.Sx.ren]at d
theorem KidSat.ren(h:Fwd η η' σ){w:World}{v:Value}{es:Nat}{rows:List (List SV)}(d:KidSat η w v es rows):KidSat η' w v es (X9 σ rows):=by
 rcases d with⟨h1,rfl⟩|⟨g,cap,arr,T,fz,h1,h2,h3,h4,h5,h6⟩
 ·exact .inl ⟨h1,rfl⟩
 ·refine .inr ⟨g,cap,arr,T,fz,by rw[Y7];exact h1,h2,h3,h4,by rw[Y7];exact h5,fun j row hr=>?_⟩;rw[YS]at hr;cases hq:rows[j]? with
  |none=>rw[hq]at hr;cases hr
  |some q=>
   rw[hq]at hr;simp only[Option.map_some,Option.some.injEq]at hr;subst hr;rw[Vl];exact⟨(h6 j q hq).1,(h6 j q hq).2.ren h⟩
theorem KidSat.unren(h:Bwd η η' σ k){w:World}{v:Value}{es:Nat}{rows:List (List SV)}(hk:Ys k rows=true)(d:KidSat η w v es (X9 σ rows)):KidSat η' w v es rows:=by
 rcases d with⟨h1,h0⟩|⟨g,cap,arr,T,fz,h1,h2,h3,h4,h5,h6⟩
 ·refine .inl ⟨h1,?_⟩;have:=congrArg List.length h0;rw[Y7]at this;exact List.length_eq_zero_iff.1 this
 ·refine .inr ⟨g,cap,arr,T,fz,by rw[Y7]at h1;exact h1,h2,h3,h4,by rw[Y7]at h5;exact h5,fun j row hr=>?_⟩;obtain⟨p1,p2⟩:=h6 j (renL σ row) (by rw[YS,hr];rfl);rw[Vl]at p1;exact⟨p1,p2.unren h (XJ hk hr)⟩
theorem KidsOK.ren(h:Fwd η η' σ){w:World}{g:Nat}{o:Obj}{es:Nat}{rs:List (List DC)}(d:KidsOK η w g o es rs):KidsOK η' w g o es (Xo σ rs):=by
 refine⟨fun i j es' rows hk=>?_,fun i j i' j' x x' v v' k h1 h2 h3 h4 h5 h6=>?_⟩
 ·rw[Jt]at hk;cases hq:YD rs i j with
  |none=>rw[hq]at hk;cases hk
  |some x=>
   rw[hq]at hk;obtain⟨es0,rows0⟩:=x;simp only[Option.map_some,Option.some.injEq,Prod.mk.injEq]at hk;obtain⟨rfl,rfl⟩:=hk;obtain⟨v,g1,g2,g3⟩:=d.sat i j _ _ hq;exact⟨v,g1,g2.ren h,g3⟩
 ·rw[Jt]at h1 h2;obtain⟨y,hy,_⟩:=Option.map_eq_some_iff.1 h1;obtain⟨y',hy',_⟩:=Option.map_eq_some_iff.1 h2;exact d.ne i j i' j' y y' v v' k hy hy' h3 h4 h5 h6
theorem Z1U:∀{row:List DC} {j:Nat} {c:DC},Xg k row=true->row[j]?=some c->Wo k c=true
 | [],j,c,_,h=>by simp at h
 |d::cs,0,c,hk,h=>by simp only[Xg,Bool.and_eq_true]at hk;simp at h;subst h;exact hk.1
 |d::cs,j+1,c,hk,h=>by simp only[Xg,Bool.and_eq_true]at hk;simp at h;exact Z1U hk.2 h
theorem Z0s:∀{rs:List (List DC)} {j:Nat} {c:List DC},Yl k rs=true->rs[j]?=some c->Xg k c=true
 | [],j,c,_,h=>by simp at h
 |d::cs,0,c,hk,h=>by simp only[Yl,Bool.and_eq_true]at hk;simp at h;subst h;exact hk.1
 |d::cs,j+1,c,hk,h=>by simp only[Yl,Bool.and_eq_true]at hk;simp at h;exact Z0s hk.2 h
theorem Z6O{rs:List (List DC)}{i j es:Nat}{rows:List (List SV)}(hk:Yl k rs=true)(h:YD rs i j=some (es,rows)):Ys k rows=true:=by
 unfold YD at h;split at h
 ·rename_i row hr;split at h
  ·rename_i es' rows' hc;simp only[Option.some.injEq,Prod.mk.injEq]at h;obtain⟨rfl,rfl⟩:=h;exact Z1U (Z0s hk hr) hc
  ·cases h
 ·cases h
theorem Z1V:∀{r:List DC},Xg k r=true->ZS k (r.map Ye)=true
 | [],_=>rfl
 |c::cs,h=>by
  simp only[Xg,Bool.and_eq_true]at h;simp only[List.map_cons,ZS,Z1V h.2,Bool.and_true];cases c with
  |v s=>exact h.1
  |kid es rows=>rfl
theorem J2:∀{r:List (List DC)},Yl k r=true->Ys k (ZD r)=true
 | [],_=>rfl
 |c::cs,h=>by
  simp only[Yl,Bool.and_eq_true]at h;have:=J2 h.2;unfold ZD at this⊢;simp only[List.map_cons,Ys,Z1V h.1,this,Bool.and_self]
theorem KidsOK.unren(h:Bwd η η' σ k){w:World}{g:Nat}{o:Obj}{es:Nat}{rs:List (List DC)}(hk:Yl k rs=true)(d:KidsOK η w g o es (Xo σ rs)):KidsOK η' w g o es rs:=by
 refine⟨fun i j es' rows hkd=>?_,fun i j i' j' x x' v v' k h1 h2 h3 h4 h5 h6=>?_⟩
 ·obtain⟨v,g1,g2,g3⟩:=d.sat i j es' (X9 σ rows) (by rw[Jt,hkd];rfl);exact⟨v,g1,g2.unren h (Z6O hk hkd),g3⟩
 ·exact d.ne i j i' j' _ _ v v' k (by rw[Jt,h1];rfl) (by rw[Jt,h2];rfl) h3 h4 h5 h6
theorem DeepSat.ren(h:Fwd η η' σ){w:World}{i es:Nat}{rs:List (List DC)}{x:Option Ent}(hx:η.get (.loc i)=some x)(d:DeepSat η w (.loc i) es rs):DeepSat η' w (.loc (σ i)) es (Xo σ rs):=by
 intro e he;have:=h.get (b:= .loc i) hx;rw[show η'.get (renB σ (.loc i))=some (some e)from he]at this;injection this with this;subst this;obtain⟨h1,h2⟩:=d e hx;exact⟨h1,fun o ho=>(h2 o ho).ren h⟩
theorem HpSat.ren(h:Fwd η η' σ){w:World}{own:Bool}{i:Nat}{hp:Hp}(d:HpSat η w own (.loc i) hp):HpSat η' w own (.loc (σ i)) (renH σ hp):=by
 have hg:∀{x},η.get (.loc i)=some x->η'.get (.loc (σ i))=some x:=fun hx=>h.get (b:= .loc i) hx;cases hp with
 |box row=>
  simp only[HpSat,renH]at d⊢;obtain⟨e,arr,T,fz,h1,h2,h3,h4⟩:=d;exact⟨e,arr,T,fz,hg h1,h2,h3,h4.ren h⟩
 |rows es rs=>
  simp only[HpSat,renH]at d⊢;rcases d with⟨h1,rfl⟩|⟨e,arr,T,fz,h1,h2,h3,h4⟩
  ·exact .inl ⟨hg h1,rfl⟩
  ·refine .inr ⟨e,arr,T,fz,hg h1,h2,by rw[Y7];exact h3,fun j row hr=>?_⟩;rw[YS]at hr;cases hq:rs[j]? with
   |none=>rw[hq]at hr;cases hr
   |some q=>
    rw[hq]at hr;simp only[Option.map_some,Option.some.injEq]at hr;subst hr;rw[Vl];exact⟨(h4 j q hq).1,(h4 j q hq).2.ren h⟩
 |tbl vs=>
  simp only[HpSat,renH]at d⊢;obtain⟨e,h1,h2⟩:=d;exact⟨e,hg h1,h2⟩
 |siter s p=>
  simp only[HpSat,renH]at d⊢;obtain⟨e,h1,h2⟩:=d;exact⟨e,hg h1,h2⟩
 |mp rs=>
  simp only[HpSat,renH]at d⊢;obtain⟨e,es,h1,h2,h3,h4,h5⟩:=d;refine⟨e,es,hg h1,h2,h3,by rw[Y7];exact h4,fun j row hr=>?_⟩;rw[YS]at hr;cases hq:rs[j]? with
  |none=>rw[hq]at hr;cases hr
  |some q=>
   rw[hq]at hr;simp only[Option.map_some,Option.some.injEq]at hr;subst hr;obtain⟨en,g1,g2,g3⟩:=h5 j q hq;exact⟨en,g1,g2,g3.ren h⟩
 |dfr f=>
  simp only[HpSat,renH]at d⊢;obtain⟨e,h1,h2⟩:=d;exact⟨e,hg h1,h2⟩
 |lp st li fr=>
  simp only[HpSat,renH]at d⊢;obtain⟨e,r,h1,h2,h3,h4⟩:=d;exact⟨e,r,hg h1,h2,h3,h4.ren h⟩
 |bld T t l=>
  simp only[HpSat,renH]at d⊢;obtain⟨e,h1,h2⟩:=d;exact⟨e,hg h1,h2⟩
 |deep mp es rs=>
  cases mp
  ·simp only[HpSat,renH,V8]at d⊢;obtain⟨d1,d2⟩:=d;obtain⟨x,hx,_⟩:=d1.ent;refine⟨?_,d2.ren h hx⟩;rcases d1 with⟨h1,h0⟩|⟨e,arr,T,fz,h1,h2,h3,h4⟩
   ·exact .inl ⟨hg h1,by rw[h0];rfl⟩
   ·refine .inr ⟨e,arr,T,fz,hg h1,h2,by rw[Y7];exact h3,fun j row hr=>?_⟩;rw[YS]at hr;cases hq:(ZD rs)[j]? with
    |none=>rw[hq]at hr;cases hr
    |some q=>
     rw[hq]at hr;simp only[Option.map_some,Option.some.injEq]at hr;subst hr;rw[Vl];exact⟨(h4 j q hq).1,(h4 j q hq).2.ren h⟩
  ·simp only[HpSat,renH,V8]at d⊢;obtain⟨⟨d1,d0⟩,d2⟩:=d;obtain⟨x,hx,_⟩:=d1.ent;refine⟨⟨?_,d0⟩,d2.ren h hx⟩;obtain⟨e,es,h1,h2,h3,h4,h5⟩:=d1;refine⟨e,es,hg h1,h2,h3,by rw[Y7];exact h4,fun j row hr=>?_⟩;rw[YS]at hr;cases hq:(ZD rs)[j]? with
   |none=>rw[hq]at hr;cases hr
   |some q=>
    rw[hq]at hr;simp only[Option.map_some,Option.some.injEq]at hr;subst hr;obtain⟨en,g1,g2,g3⟩:=h5 j q hq;exact⟨en,g1,g2,g3.ren h⟩
theorem RowsSat.unren(h:Bwd η η' σ k){w:World}{own:Bool}{b b':Blk}(hg:∀{x},η.get b=some x->η'.get b'=some x){es:Nat}{rs:List (List SV)}(hk:Ys k rs=true)(d:RowsSat η w own b es (X9 σ rs)):RowsSat η' w own b' es rs:=by
 rcases d with⟨h1,h0⟩|⟨e,arr,T,fz,h1,h2,h3,h4⟩
 ·refine .inl ⟨hg h1,?_⟩;have:=congrArg List.length h0;rw[Y7]at this;exact List.length_eq_zero_iff.1 this
 ·refine .inr ⟨e,arr,T,fz,hg h1,h2,by rw[Y7]at h3;exact h3,fun j row hr=>?_⟩;obtain⟨p1,p2⟩:=h4 j (renL σ row) (by rw[YS,hr];rfl);rw[Vl]at p1;exact⟨p1,p2.unren h (XJ hk hr)⟩
theorem MpSat.unren(h:Bwd η η' σ k){w:World}{b b':Blk}(hg:∀{x},η.get b=some x->η'.get b'=some x){rs:List (List SV)}(hk:Ys k rs=true)(d:MpSat η w b (X9 σ rs)):MpSat η' w b' rs:=by
 obtain⟨e,es,h1,h2,h3,h4,h5⟩:=d;refine⟨e,es,hg h1,h2,h3,by rw[Y7]at h4;exact h4,fun j row hr=>?_⟩;obtain⟨en,g1,g2,g3⟩:=h5 j (renL σ row) (by rw[YS,hr];rfl);exact⟨en,g1,g2,g3.unren h (XJ hk hr)⟩
theorem DeepSat.unren(h:Bwd η η' σ k){w:World}{b b':Blk}(hg:∀{x},η.get b=some x->η'.get b'=some x){es:Nat}{rs:List (List DC)}{x:Option Ent}(hx:η.get b=some x)(hk:Yl k rs=true)(d:DeepSat η w b es (Xo σ rs)):DeepSat η' w b' es rs:=by
 intro e he;have:=hg hx;rw[he]at this;injection this with this;subst this;obtain⟨h1,h2⟩:=d e hx;exact⟨h1,fun o ho=>(h2 o ho).unren h hk⟩
theorem HpSat.unren(h:Bwd η η' σ k){w:World}{own:Bool}{i:Nat}(hi:i<k){hp:Hp}(hk:Zs k hp=true)(d:HpSat η w own (.loc (σ i)) (renH σ hp)):HpSat η' w own (.loc i) hp:=by
 have hg:∀{x},η.get (.loc (σ i))=some x->η'.get (.loc i)=some x:=fun hx=>h i _ hi hx;cases hp with
 |box row=>
  simp only[HpSat,renH]at d⊢;obtain⟨e,arr,T,fz,h1,h2,h3,h4⟩:=d;exact⟨e,arr,T,fz,hg h1,h2,h3,h4.unren h hk⟩
 |rows es rs=>
  simp only[HpSat,renH]at d⊢;rcases d with⟨h1,h0⟩|⟨e,arr,T,fz,h1,h2,h3,h4⟩
  ·refine .inl ⟨hg h1,?_⟩;have:=congrArg List.length h0;rw[Y7]at this;exact List.length_eq_zero_iff.1 this
  ·refine .inr ⟨e,arr,T,fz,hg h1,h2,by rw[Y7]at h3;exact h3,fun j row hr=>?_⟩;obtain⟨p1,p2⟩:=h4 j (renL σ row) (by rw[YS,hr];rfl);rw[Vl]at p1;exact⟨p1,p2.unren h (XJ hk hr)⟩
 |tbl vs=>
  simp only[HpSat,renH]at d⊢;obtain⟨e,h1,h2⟩:=d;exact⟨e,hg h1,h2⟩
 |siter s p=>
  simp only[HpSat,renH]at d⊢;obtain⟨e,h1,h2⟩:=d;exact⟨e,hg h1,h2⟩
 |mp rs=>
  simp only[HpSat,renH]at d⊢;obtain⟨e,es,h1,h2,h3,h4,h5⟩:=d;refine⟨e,es,hg h1,h2,h3,by rw[Y7]at h4;exact h4,fun j row hr=>?_⟩;obtain⟨en,g1,g2,g3⟩:=h5 j (renL σ row) (by rw[YS,hr];rfl);exact⟨en,g1,g2,g3.unren h (XJ hk hr)⟩
 |dfr f=>
  simp only[HpSat,renH]at d⊢;obtain⟨e,h1,h2⟩:=d;exact⟨e,hg h1,h2⟩
 |lp st li fr=>
  simp only[HpSat,renH]at d⊢;obtain⟨e,r,h1,h2,h3,h4⟩:=d;exact⟨e,r,hg h1,h2,h3,h4.unren h hk⟩
 |bld T t l=>
  simp only[HpSat,renH]at d⊢;obtain⟨e,h1,h2⟩:=d;exact⟨e,hg h1,h2⟩
 |deep mp es rs=>
  cases mp
  ·simp only[HpSat,renH,V8]at d⊢;obtain⟨d1,d2⟩:=d;obtain⟨x,hx,_⟩:=d1.ent;exact⟨d1.unren h hg (J2 hk),d2.unren h hg hx hk⟩
  ·simp only[HpSat,renH,V8]at d⊢;obtain⟨⟨d1,d0⟩,d2⟩:=d;obtain⟨x,hx,_⟩:=d1.ent;exact⟨⟨d1.unren h hg (J2 hk),d0⟩,d2.unren h hg hx hk⟩
end
theorem CellsAt.plain{η η':Env}{arr:Array Value}{o:Nat}{row:List SV}(hp:YC row=true)(d:CellsAt η arr o row):CellsAt η' arr o row:=
 CellsAt.unren (σ:=id) (k:=0) (fun i x hi=>by omega) (ZM 0 hp) (by rw[Yd _ hp];exact d)
theorem Vm:∀{rs:List (List SV)} {i:Nat} {row:List SV},Zo rs=true->rs[i]?=some row->YC row=true
 | [],i,row,_,h=>by simp at h
 |r::rs,0,row,hp,h=>by simp only[Zo,Bool.and_eq_true]at hp;simp at h;subst h;exact hp.1
 |r::rs,i+1,row,hp,h=>by simp only[Zo,Bool.and_eq_true]at hp;simp at h;exact Vm hp.2 h
theorem HpSat.plain{η η':Env}{w:World}{own:Bool}{g:Nat}{h:Hp}(d:HpSat η w own (.glob g) h)(hp:JG h=true):HpSat η' w own (.glob g) h:=by
 cases h with
 |box row=>
  simp only[JG]at hp;simp only[HpSat]at d⊢;obtain⟨e,arr,T,fz,h1,h2,h3,h4⟩:=d;exact⟨e,arr,T,fz,h1,h2,h3,h4.plain hp⟩
 |rows es rs=>
  simp only[JG]at hp;simp only[HpSat]at d⊢;rcases d with⟨h1,h2⟩|⟨e,arr,T,fz,h1,h2,h3,h4⟩
  ·exact .inl ⟨h1,h2⟩
  ·exact .inr ⟨e,arr,T,fz,h1,h2,h3,fun i row hr=>⟨(h4 i row hr).1,(h4 i row hr).2.plain (Vm hp hr)⟩⟩
 |mp rs=>
  simp only[JG]at hp;simp only[HpSat]at d⊢;obtain⟨e,es,h1,h2,h3,h4,h5⟩:=d;exact⟨e,es,h1,h2,h3,h4,fun i row hr=>let⟨en,g1,g2,g3⟩:=h5 i row hr;⟨en,g1,g2,DenL.unren (σ:=id) (k:=0) (fun i x hi=>by omega) (ZM 0 (Vm hp hr)) (by rw[Yd _ (Vm hp hr)];exact g3)⟩⟩
 |siter s p=>exact d
 |tbl vs=>exact d
 |dfr f=>exact d
 |lp st li fr=>
  simp only[JG]at hp;simp only[HpSat]at d⊢;obtain⟨e,r,h1,h2,h3,h4⟩:=d;exact⟨e,r,h1,h2,h3,LpSat.unren (σ:=id) (k:=0) (fun i x hi=>by omega) (VQ 0 hp) (by rw[Z01 _ hp];exact h4)⟩
 |bld T t l=>exact d
 |deep mp es rs=>
  simp only[JG]at hp;have hb:=XU 0 hp;have hB:Bwd η η' id 0:=fun i x hi=>by omega
  have e1:Xo id rs=rs:=JN id hp;have hg:∀{x},η.get (.glob g)=some x->η'.get (.glob g)=some x:=fun hx=>hx;rw[<-e1]at d;cases mp
  ·simp only[HpSat,V8]at d⊢;obtain⟨d1,d2⟩:=d;obtain⟨x,hx,_⟩:=d1.ent;exact⟨d1.unren hB hg (J2 hb),d2.unren hB hg hx hb⟩
  ·simp only[HpSat,V8]at d⊢;obtain⟨⟨d1,d0⟩,d2⟩:=d;obtain⟨x,hx,_⟩:=d1.ent;exact⟨⟨d1.unren hB hg (J2 hb),d0⟩,d2.unren hB hg hx hb⟩
def Yy(η:Env)(w:World)(O:Hps):Nat->Prop:=fun g=> ∃i h,lkp i O=some h/\feet η w (.loc i) h g
theorem kid_renH{σ:Nat->Nat}{w:World}{g k:Nat}{h:Hp}:kid w g (renH σ h) k<->kid w g h k:=by
 cases h with
 |deep mp es rs=>
  simp only[renH,kid];constructor
  ·rintro⟨o,i,j,x,v,h1,h2,h3,h4⟩;rw[Jt]at h2;obtain⟨y,hy,_⟩:=Option.map_eq_some_iff.1 h2;exact⟨o,i,j,y,v,h1,hy,h3,h4⟩
  ·rintro⟨o,i,j,x,v,h1,h2,h3,h4⟩;exact⟨o,i,j,_,v,h1,by rw[Jt,h2];rfl,h3,h4⟩
 |_=>exact Iff.rfl
theorem feet.ren{σ:Nat->Nat}{η η':Env}{w:World}{i k:Nat}{h:Hp}(hg:∀x,η[i]?=some x->η'[σ i]?=some x)(f:feet η w (.loc i) h k):feet η' w (.loc (σ i)) (renH σ h) k:=
 let⟨e,h1,h2⟩:=f;⟨e,hg _ h1,h2.imp id kid_renH.2⟩
theorem feet.unren{σ:Nat->Nat}{η η':Env}{w:World}{i k:Nat}{h:Hp}(hg:∀x,η'[σ i]?=some x->η[i]?=some x)(f:feet η' w (.loc (σ i)) (renH σ h) k):feet η w (.loc i) h k:=
 let⟨e,h1,h2⟩:=f;⟨e,hg _ h1,h2.imp id kid_renH.1⟩
def shB(S:Hps):List (Blk×Hp):=S.map fun p=>(Blk.loc p.1,p.2)
structure Does(P:Program)(T:Tab)(f:FuncId)(k:Nat)(args:List SV)(O S:Hps)(Q:SV->Hps->Nat->Prop):Prop where
 out:∀(M:Mx) (vs:List Value),M.P=P->M.C.T=T->M.F=Yy M.η0 M.w0 O->M.C.S=shB S->HeapOK M M.η0 M.w0 O k->DenL M.η0 args vs->
  Invokes M.P f ⟨vs⟩ M.w0 fun v w'=> ∃r O' nx' η',Q r O' nx'/\M.η0<+:η'/\HeapOK M η' w' O' nx'/\Den η' r v
def XK:Nat->List SV->Fr
 |_,[]=>[]
 |n,v::vs=>(n,v)::XK (n+1) vs
def Zeo(p:Prop)(_:Res)(k:ResV):ResV:=fun K=>NEED p (k K)
def Zgi(rs:List (List SV))(i:Nat)(_:List SV->Res)(f:List SV->ResV):ResV:=fun K=>GET rs i fun row=>UB row fun row=>f row K
def Wp:ResV:=fun _=>STOP "result"
noncomputable def Res.gv (r:Res):ResV:=
 Res.rec (motive:=fun _=>ResV) Zcw (fun _ _=>Wp) (fun _ _ _=>Wp) (fun _ _ _=>Wp) Zeo Zgi (fun _ _ _ _ _=>Wp) (fun _ _ _ _ _=>Wp) (fun _ _ _ _ _=>Wp) (fun _ _ _ _=>Wp) (fun _ _ _ _=>Wp) Wp r
abbrev RetT:=(List SV->Prop)->Prop
def Zgj:RetT:=fun K=>K []
noncomputable def Z1W (C:Cx)(fr:Fr)(O:Hps)(v:ResultVar)(_:List ResultVar)(r:RetT):RetT:=fun K=>match v with
 | .tmp t=>match lkp t fr with
   |some v=>r fun vs=>K (v::vs)
   |none=>STOP "result"
 | .cell a t=>match lkp a fr with
   |some p=>(Z8L C.T (XF C O) t p).gv fun v=>r fun vs=>K (v::vs)
   |none=>STOP "result"
noncomputable def Uy (C:Cx)(fr:Fr)(O:Hps)(l:List ResultVar):RetT:=List.rec (motive:=fun _=>RetT) Zgj (Z1W C fr O) l
def Z2Q:List SV->SV
 | [v]=>v
 |vs=> .tup vs
structure FIN(M:Mx)(O:Hps)(nx:Nat)(r:SV)(Q:SV->Hps->Nat->Prop):Prop where
 out:∀η w v,HeapOK M η w O nx->Den η r v->∃r' O' nx' η',Q r' O' nx'/\M.η0<+:η'/\HeapOK M η' w O' nx'/\Den η' r' v
def Z4i(M:Mx)(O:Hps)(nx:Nat)(Q:SV->Hps->Nat->Prop):List SV->Prop
 | [v]=>FIN M O nx v Q
 |vs=>FIN M O nx (.tup vs) Q
theorem Z4j{M:Mx}{O:Hps}{nx:Nat}{Q:SV->Hps->Nat->Prop}:∀vs,Z4i M O nx Q vs=FIN M O nx (Z2Q vs) Q
 | []=>rfl
 | [_]=>rfl
 |_::_::_=>rfl
def Z3o:List SV->Hps->(Hps->Prop)->Prop
 | [],O,K=>K O
 |c::l,O,K=>match c with
  | .ptr (.loc j) _ _ _=>match lkp j O with
    |some (.dfr [])=>Z1r j O fun O=>Z3o l O K
    |_=>STOP "put off"
  | .val v=>match l with
    | .ptr (.loc j) _ _ _::l'=>match lkp j O with
      |some (.dfr f)=>NEED (v=farV f) (Z1r j O fun O=>Z3o l' O K)
      |_=>STOP "put off"
    |_=>STOP "put off"
  |_=>STOP "put off"
def Z2R(fr:Fr)(O:Hps)(K:Hps->Prop):Prop:=match lkp DS fr with
 |some v=>match v with
  | .dfs l=>Z3o l O K
  |_=>K O
 |none=>K O
def endQ(M:Mx)(res:List ResultVar)(Q:SV->Hps->Nat->Prop):Post
 | .normal,fr,O,nx=>Z2R fr O fun O=>Uy M.C fr O res fun vs=>Z4i M O nx Q vs
 | .ret,fr,O,nx=>Z2R fr O fun O=>Uy M.C fr O res fun vs=>Z4i M O nx Q vs
 | .exit _,_,_,_=>STOP "exit"
section
variable {M:Mx}{η:Env}{w:World}{O:Hps}{nx:Nat}
theorem Res.gv_ok:∀{r:Res} {K:SV->Prop},r.gv K->∃v,(∀O nx,r.ok O nx v O nx)/\K v
 | .val v,K,h=>by simp only[Res.gv,Zcw,Yh]at h;exact⟨v,fun _ _=>⟨rfl,rfl,rfl⟩,h⟩
 | .need p k,K,h=>by
   simp only[Res.gv,Zeo]at h;obtain⟨v,h1,h2⟩:=Res.gv_ok h.k;exact⟨v,fun O nx=>⟨h.p,h1 O nx⟩,h2⟩
 | .get rs i f,K,h=>by
   simp only[Res.gv,Zgi,Jh]at h;obtain⟨row,hr,h⟩:=h.out;obtain⟨v,h1,h2⟩:=Res.gv_ok h;exact⟨v,fun O nx=>⟨row,hr,h1 O nx⟩,h2⟩
 | .new _ _,_,h=>h.out.elim
 | .upd _ _ _,_,h=>h.out.elim
 | .repl _ _ _,_,h=>h.out.elim
 | .take _ _ _ _,_,h=>h.out.elim
 | .putk _ _ _ _,_,h=>h.out.elim
 | .find _ _ _,_,h=>h.out.elim
 | .findD _ _ _,_,h=>h.out.elim
 | .ite _ _ _,_,h=>h.out.elim
 | .fail,_,h=>h.out.elim
def Z3p(tmps:Array Value):ResultVar->Sem Value
 | .tmp t=>pure (tmps.getD t undef)
 | .cell c t=>do loadVar t (<-asAddr (tmps.getD c undef))
theorem Z3q(fn:Func)(tmps:Array Value):results fn tmps=(do let vs<-fn.results.mapM (Z3p tmps);pure (if h:vs.size=1 then vs[0]else .tuple vs)):=by
 have:(fun x:ResultVar=>match x with|ResultVar.tmp t=>(pure (tmps.getD t undef):Sem Value)|ResultVar.cell c t=>do loadVar t (<-asAddr (tmps.getD c undef)))=Z3p tmps:=by
  funext x;cases x<;>rfl
 rw[<-this]
 rfl
theorem Z8V{P:Program}{w:World}{v:Value}{a:Addr}(h:v= .pointer (some a)):(asAddr v).run P w= .ok a w:=by subst h;rfl
theorem Z1X(hT:TabOK M.P M.C.T)(H:HeapOK M η w O nx){a:Act}{fr:Fr}(hf:FrOK η a fr):∀{res:List ResultVar} {K:List SV->Prop},Uy M.C fr O res K->
 ∃svs vs,K svs/\DenL η svs vs/\(res.mapM (Z3p a.tmps)).run M.P w= .ok vs w
 | [],K,h=>⟨[],[],h,by simp[DenL],rfl⟩
 | .tmp t::r,K,h=>by
   replace h:Z1W M.C fr O (.tmp t) r (Uy M.C fr O r) K:=h
   simp only[Z1W]at h;split at h
   case h_2=>exact h.out.elim
   rename_i v hv;obtain⟨svs,vs,h1,h2,h3⟩:=Z1X hT H hf h;refine⟨_,a.tmps.getD t undef::vs,h1,?_,?_⟩
   ·simp only[DenL];exact⟨_,_,rfl,hf t v hv,h2⟩
   ·simp only[List.mapM_cons,Sem.run_bind,Z3p,Sem.run_pure,Result.andThen_ok,h3]
 | .cell c t::r,K,h=>by
   replace h:Z1W M.C fr O (.cell c t) r (Uy M.C fr O r) K:=h
   simp only[Z1W]at h;split at h
   case h_2=>exact h.out.elim
   rename_i p hp;obtain⟨v,hl,h⟩:=Res.gv_ok h;obtain⟨svs,vs,h1,h2,h3⟩:=Z1X hT H hf h;obtain⟨_,_,ad,u,h4,h5,h6⟩:=Z1E hT H (hf c p hp) (hl O nx);refine⟨_,u::vs,h1,?_,?_⟩
   ·simp only[DenL];exact⟨_,_,rfl,h6,h2⟩
   ·simp only[List.mapM_cons,Sem.run_bind,Z3p,Z8V h4,Result.andThen_ok,h5,h3,Sem.run_pure]
end
theorem Ud{η:Env}:∀{n:Nat} {args:List SV} {vs:List Value} {t:Nat} {sv:SV},DenL η args vs->lkp t (XK n args)=some sv->∃v,n<=t/\vs[t-n]?=some v/\Den η sv v
 |n,[],vs,t,sv,_,h=>by simp[XK,lkp]at h
 |n,a::args,vs,t,sv,hd,h=>by
  simp only[DenL]at hd;obtain⟨u,us,rfl,h1,h2⟩:=hd;simp only[XK,Z8]at h;split at h
  ·rename_i e;subst e;injection h with h;subst h
   exact⟨u,Nat.le_refl _,by simp,h1⟩
  ·obtain⟨v,h3,h4,h5⟩:=Ud h2 h;refine⟨v,by omega,?_,h5⟩;rw[show t-n=(t-(n+1))+1 by omega];simpa using h4
theorem HeapOK.drop{M:Mx}{η:Env}{w w':World}{O:Hps}{nx:Nat}(H:HeapOK M η w O nx){j:Nat}{h0:Hp}(hj:lkp j O=some h0){e:Ent}(he:η[j]?=some (some e))(hother:∀k, ¬feet η w (.loc j) h0 k->w'.heap[k]?=w.heap[k]?)(hsz:w'.heap.size=w.heap.size)
 (ho:w'.os=w.os) (ht:w'.tape=w.tape) (hp:w'.output=w.output) (hdr:w.drawn<=w'.drawn):HeapOK M η w' (delK j O) nx:=by
 have fi:feet η w (.loc j) h0 e.g:=feet.own he
 have back:∀{i h},lkp i (delK j O)=some h->i≠j/\lkp i O=some h:=fun{i h} hi=>by
  have hne:i≠j:=fun e=>by subst e;rw[Xv]at hi;cases hi
  exact⟨hne,by rw[<-We j O i hne];exact hi⟩
 have keep:∀{i h},lkp i (delK j O)=some h->∀k,feet η w (.loc i) h k->w'.heap[k]?=w.heap[k]?:=fun{i h} hi k f=>hother k fun hk=>H.own.2 i j h h0 k (back hi).2 hj (back hi).1 f hk;have bk:∀{i h},lkp i (delK j O)=some h->∀k,feet η w' (.loc i) h k->feet η w (.loc i) h k:=fun{i h} hi k f=>H.stands List.prefix_rfl (back hi).2 (keep hi) f
 refine⟨H.pre,H.len,⟨fun i h hi=>⟨(H.own.1 i h (back hi).2).1.keep (keep hi),fun k f=>(H.own.1 i h (back hi).2).2 k (bk hi k f)⟩,fun i i' h h' k hi hi' hne f f'=>H.own.2 i i' h h' k (back hi).2 (back hi').2 hne (bk hi k f) (bk hi' k f')⟩,
  ⟨ho.trans H.fr.os,ht.trans H.fr.tape,hp.trans H.fr.output,Nat.le_trans H.fr.drawn hdr,by rw[hsz];exact H.fr.size,fun k hk hF=>?_⟩,H.sok⟩
 rw[hother k ?_]
 ·exact H.fr.block k hk hF
 ·intro hke;rcases(H.own.1 j h0 hj).2 k hke with h|h
  ·exact hF h
  ·omega
theorem ZcL{f f':List Nat}(h:farV f=farV f'):f=f':=by
 unfold farV at h;simp only[Value.tuple.injEq]at h;exact(List.map_inj_right (fun a b hab=>by simp only[Value.int.injEq,true_and]at hab;omega)).1 (congrArg Array.toList h)
theorem Z5D{F:Fence}{P:Program}{fn:Func}{tmps:Array Value}{R:Ending->World->Prop}{ds:List Deferred}:∀{f:List Nat} {w:World},(∀n∈f,w.heap[n]?=some (.deferred (some [])))->f.Nodup->
 (∀w',(∀k,k∉f->w'.heap[k]?=w.heap[k]?)->w'.heap.size=w.heap.size->w'.os=w.os->w'.tape=w.tape->w'.output=w.output->w'.drawn=w.drawn->LeavesInM F 0 P fn tmps R ds .returning w')->LeavesInM F 0 P fn tmps R (farD f++ds) .returning w
 | [],w,_,_,h=>h w (fun _ _=>rfl) rfl rfl rfl rfl rfl
 |n::f,w,hs,hn,h=>by
  have hn':=List.nodup_cons.1 hn;have h6:=hs n (List.mem_cons_self ..);refine⟨(fun h=>by cases h), .inl ⟨n,w.putObj n (.deferred none),rfl,run_takeDeferred h6,?_⟩⟩;refine Z5D (fun m hm=>?_) hn'.2 fun w' h1 h2 h3 h4 h5 h6=>h w' (fun k hk=>?_) (h2.trans World.putObj_size) h3 h4 h5 h6
  ·rw[World.putObj_heap_other (by rintro rfl;exact hn'.1 hm)];exact hs m (List.mem_cons_of_mem _ hm)
  ·rw[h1 k fun hm=>hk (List.mem_cons_of_mem _ hm)];exact World.putObj_heap_other (by rintro rfl;exact hk (List.mem_cons_self ..))
theorem Z1Y{M:Mx}{F:Fence}{P:Program}{fn:Func}{tmps:Array Value}{R:Ending->World->Prop}{η:Env}{nx:Nat}:∀(m:Nat) {l:List SV} {ds:List Deferred} {O:Hps} {w:World} {K:Hps->Prop},l.length<=m->DfL η l ds->HeapOK M η w O nx->Z3o l O K->
 (∀w' O',HeapOK M η w' O' nx->K O'->LeavesInM F 0 P fn tmps R [] .returning w')->LeavesInM F 0 P fn tmps R ds .returning w
 |_,[],ds,O,w,K,_,hd,H,h,hK=>by
  simp only[DfL]at hd;subst hd;exact hK w O H h
 |0,_::_,ds,O,w,K,hm,hd,H,h,hK=>by simp at hm
 |m+1,c::l,ds,O,w,K,hm,hd,H,h,hK=>by
  have last:∀{j:Nat} {f:List Nat} {e:Ent} {r:List Deferred} {l':List SV},l'.length<=m->lkp j O=some (.dfr f)->η[j]?=some (some e)->DfL η l' r->Z3o l' (delK j O) K->LeavesInM F 0 P fn tmps R (farD f++{target:= .collected e.g,args:= #[]}::r) .returning w:=by
   intro j f e r l' hm' hj h1 h3 h;have hs:=(H.own.1 j _ hj).1;simp only[HpSat]at hs;obtain⟨e',h4,h5,h6,h7,h8⟩:=hs;rw[show η.get (.loc j)=some (some e)from h1]at h4;injection h4 with h4;injection h4 with h4;subst h4;have h8:=List.nodup_cons.1 h8;refine Z5D h7 h8.2 fun w1 g1 g2 g3 g4 g5 g6=>?_;have h6':w1.heap[e.g]?=some (.deferred (some [])):=(g1 _ h8.1).trans h6;refine⟨(fun h=>by cases h), .inl ⟨e.g,w1.putObj e.g (.deferred none),rfl,run_takeDeferred h6',?_⟩⟩;refine Z1Y m hm' h3 (H.drop hj h1 (fun k hk=>?_) (World.putObj_size.trans g2) g3 g4 g5 (by show w.drawn<=w1.drawn;omega)) h hK;rw[World.putObj_heap_other fun e'=>hk ⟨e,h1, .inl e'.symm⟩];exact g1 k fun hm=>hk ⟨e,h1, .inr hm⟩
  simp only[List.length_cons]at hm;unfold Z3o at h;split at h
  ·rename_i j _ _ _;split at h
   case h_2=>exact h.out.elim
   rename_i hj;rw[Xu]at h;simp only[DfL]at hd;obtain⟨e,r,h1,rfl,h3⟩:=hd;exact last (f:=[]) (by omega) hj h1 h3 h
  ·rename_i v;split at h
   case h_2=>exact h.out.elim
   rename_i j _ _ _ l';split at h
   case h_2=>exact h.out.elim
   rename_i f hj;obtain⟨hv,h⟩:=h;rw[Xu]at h;simp only[DfL]at hd;obtain⟨f',r',h1,rfl,e,r,h2,rfl,h3⟩:=hd;obtain rfl:=ZcL (hv.symm.trans h1);exact last (by simp only[List.length_cons]at hm;omega) hj h2 h3 h
  ·exact h.out.elim
theorem Zaq{M:Mx}{F:Fence}{P:Program}{fn:Func}{tmps:Array Value}{R:Ending->World->Prop}{η:Env}{nx:Nat}{fr:Fr}{ds:List Deferred}{O:Hps}{w:World}{K:Hps->Prop}(hd:DfOK η ds (lkp DS fr))(H:HeapOK M η w O nx)(h:Z2R fr O K)
 (hK:∀w' O',HeapOK M η w' O' nx->K O'->LeavesInM F 0 P fn tmps R [] .returning w'):LeavesInM F 0 P fn tmps R ds .returning w:=by
 unfold Z2R at h;split at h
 ·rename_i v hv;rw[hv]at hd;split at h
  ·exact Z1Y _ (Nat.le_refl _) hd H h hK
  ·rename_i hnd
   have:ds=[]:=by
    cases v<;>first|exact hd|exact(hnd _ rfl).elim
   subst this;exact hK w O H h
 ·rename_i hv;rw[hv]at hd;have hd:ds=[]:=hd;subst hd;exact hK w O H h
theorem Z5E{M:Mx}(hT:TabOK M.P M.C.T){fn:Func}{res:List ResultVar}(hres:fn.results=res.toArray){K:SV->Hps->Nat->Prop}{η:Env}{fr:Fr}{O':Hps}{nx:Nat}{a:Act}{w':World}(H':HeapOK M η w' O' nx)(hf:FrOK η a fr)
 (hr:Uy M.C fr O' res fun vs=>K (Z2Q vs) O' nx):∃v r,(results fn a.tmps).run M.P w'= .ok v w'/\Den η r v/\K r O' nx:=by
 obtain⟨svs,rvs,h1,h2,h3⟩:=Z1X hT H' hf hr
 have hrun:(results fn a.tmps).run M.P w'= .ok (if h:rvs.length=1 then rvs[0]'(by omega)else .tuple ⟨rvs⟩) w':=by
  have hh:(res.toArray.mapM (Z3p a.tmps)).run M.P w'= .ok ⟨rvs⟩ w':=by
   rw[Array.mapM_eq_mapM_toList];simp only[Sem.run_map,h3,Result.andThen_ok]
  rw[Z3q,hres];simp only[Sem.run_bind,hh,Result.andThen_ok,Sem.run_pure]
  rfl
 have hden:Den η (Z2Q svs) (if h:rvs.length=1 then rvs[0]'(by omega)else .tuple ⟨rvs⟩):=by
  have hl:=ZJ h2
  match svs,h2,hl with
  | [],h2,hl=>
    simp only[DenL]at h2;subst h2;simp only[Z2Q,Den,DenL];exact⟨[],by simp,rfl⟩
  | [s],h2,hl=>
    simp only[DenL]at h2;obtain⟨u,us,rfl,h4,rfl⟩:=h2;simpa[Z2Q]using h4
  |s::s'::r,h2,hl=>
   simp only[List.length_cons]at hl;rw[dif_neg (by omega)];simp only[Z2Q,Den];exact⟨rvs,rfl,h2⟩
 exact⟨_,_,hrun,hden,h1⟩
theorem Z1Z{M:Mx}(hT:TabOK M.P M.C.T){fn:Func}{res:List ResultVar}(hres:fn.results=res.toArray){K:SV->Hps->Nat->Prop}{η:Env}{fr:Fr}{O:Hps}{nx:Nat}{a:Act}{w:World}(hm:Models M η fr O nx a w)
 (h:Z2R fr O fun O=>Uy M.C fr O res fun vs=>K (Z2Q vs) O nx) {R:Ending->World->Prop} (hR:∀w' O' v r,HeapOK M η w' O' nx->Den η r v->K r O' nx->R (.returned v) w'):LeavesInM Fence.wide 0 M.P fn a.tmps R a.defers .returning w:=by
 refine Zaq hm.defers hm.heap h fun w' O' H' hr=>?_;obtain⟨v,r,h1,h2,h3⟩:=Z5E hT hres H' hm.frame hr;exact⟨_,h1,hR w' O' _ _ H' h2 h3⟩
theorem Zar{n:Nat}{args:List SV}{t:Nat}{v:SV}(h:lkp t (XK n args)=some v):n<=t/\t<n+args.length:=by
 induction args generalizing n with
 |nil=>simp[XK,lkp]at h
 |cons a l ih=>
  simp only[XK,Z8]at h;split at h
  ·rename_i e;subst e;simp
  ·have:=ih h;simp only[List.length_cons];omega
theorem Wq{η:Env}{args:List SV}(h:args.length<=DS):DfOK η [] (lkp DS (XK 0 args)):=by
 cases hv:lkp DS (XK 0 args)with
 |none=>exact rfl
 |some v=>have:=Zar hv;omega
structure DoesW(G:World->Prop)(P:Program)(T:Tab)(f:FuncId)(k:Nat)(args:List SV)(O S:Hps)(Q:SV->Hps->Nat->Prop):Prop where
 out:∀(M:Mx) (vs:List Value),M.P=P->M.C.T=T->M.F=Yy M.η0 M.w0 O->M.C.S=shB S->HeapOK M M.η0 M.w0 O k->DenL M.η0 args vs->G M.w0->
  Invokes M.P f ⟨vs⟩ M.w0 fun v w'=> ∃r O' nx' η',Q r O' nx'/\M.η0<+:η'/\HeapOK M η' w' O' nx'/\Den η' r v
theorem Does.enterW{G:World->Prop}{P:Program}{T:Tab}{f g:FuncId}{k:Nat}{args:List SV}{O S:Hps}{Q:SV->Hps->Nat->Prop}{fn:Func}{c:Code}(hT:TabOK P T)(hcall:∀args w,(callFunc f args).run P w= .ok (.enter g args) w)
 (hf:P.funcs[g]?=some fn) (hb:fn.body=some c) (N:Nat) (hN:fn.ntmps=N) (hlen:Nat.ble args.length N=true) (res:List ResultVar) (hres:fn.results=res.toArray)
 (h:∀w0 F η0,η0.length=k->G w0->F=Yy η0 w0 O->run ⟨P,⟨T,N,shB S,none⟩,w0,F,η0,none⟩ c (XK 0 args) O k (endQ ⟨P,⟨T,N,shB S,none⟩,w0,F,η0,none⟩ res Q)) (hND:Nat.ble N DS=true:=by rfl):DoesW G P T f k args O S Q:=by
 refine⟨fun M vs hP hT' hF hS H hd hG=> .inl ⟨g,by rw[hP];exact hcall _ _,?_⟩⟩;obtain⟨P',⟨T',N',S',ro'⟩,w0,F,η0,px'⟩:=M;simp only at hP hT' hF hS H hd hG⊢;subst hP hT' hS;have hk:η0.length=k:=H.len;have H':HeapOK ⟨P',⟨T',N,shB S,none⟩,w0,F,η0,none⟩ η0 w0 O k:=⟨H.pre,H.len,H.own,H.fr,H.sok⟩;have hl:=ZJ hd;refine callsIn_wide (n:=0)|>.1 (callsIn_of_wp_marks hf hb trivial ?_)
 have hm:Models ⟨P',⟨T',N,shB S,none⟩,w0,F,η0,none⟩ η0 (XK 0 args) O k {tmps:=⟨vs⟩++Array.replicate (fn.ntmps-(Array.mk vs).size) undef,defers:=[]} w0:=by
  refine⟨H',?_,Nat.le_of_ble_eq_true hND,Wq (Nat.le_trans (Nat.le_of_ble_eq_true hlen) (Nat.le_of_ble_eq_true hND)),(fun l j h=>by cases h),?_⟩
  ·have:=Nat.le_of_ble_eq_true hlen;simp only[Array.size_append,Array.size_replicate,hN,List.size_toArray];show vs.length+(N-vs.length)=N
   omega
  ·intro t sv ht;obtain⟨v,_,h1,h2⟩:=Ud hd ht;have hlt:=(List.getElem?_eq_some_iff.1 h1).1;simp only[Nat.sub_zero]at h1 hlt;rw[Array.getD_eq_getD_getElem?,Array.getElem?_append_left (by simpa using hlt)];have:(Array.mk vs)[t]?=some v:=by simpa using h1
   rw[this];exact h2
 refine Code.wpIn_mono ?_ (ZO hT c (h w0 F η0 hk hG hF) η0 _ w0 hm)
 have fin:∀{η1:Env} {fr1:Fr} {O1:Hps} {nx1:Nat} {a:Act} {w1:World},Models ⟨P',⟨T',N,shB S,none⟩,w0,F,η0,none⟩ η1 fr1 O1 nx1 a w1->(Z2R fr1 O1 fun O1=>Uy ⟨T',N,shB S,none⟩ fr1 O1 res fun vs=>Z4i ⟨P',⟨T',N,shB S,none⟩,w0,F,η0,none⟩ O1 nx1 Q vs)->
  LeavesInM Fence.wide 0 P' fn a.tmps (fun e w'=> ∃v,e= .returned v/\∃r O' nx' η',Q r O' nx'/\η0<+:η'/\HeapOK ⟨P',⟨T',N',shB S,ro'⟩,w0,F,η0,px'⟩ η' w' O' nx'/\Den η' r v) a.defers .returning w1:=by
  intro η1 fr1 O1 nx1 a w1 hm1 hr;refine Z1Z (M:=⟨P',⟨T',N,shB S,none⟩,w0,F,η0,none⟩) (K:=fun r O nx=>FIN ⟨P',⟨T',N,shB S,none⟩,w0,F,η0,none⟩ O nx r Q) hT hres hm1 (by simpa only[Z4j]using hr) fun w2 O2 v r H2 hd2 hk=>?_;obtain⟨r',O',nx',η',h5,h6,h7,h8⟩:=hk.out η1 w2 v H2 hd2;exact⟨v,rfl,r',O',nx',η',h5,h6,⟨h7.pre,h7.len,h7.own,h7.fr,h7.sok⟩,h8⟩
 intro e a w hq;cases e with
 |normal=>obtain⟨η1,fr1,O1,nx1,hm1,hq⟩:=hq;exact fin hm1 hq
 |ret=>obtain⟨η1,fr1,O1,nx1,hm1,hq⟩:=hq;exact fin hm1 hq
 |exit id=>obtain⟨η1,fr1,O1,nx1,hm1,hq⟩:=hq;exact hq.out.elim
 |goto l=>exact hq.elim
 |panic ch=>obtain⟨_,_,hn,_⟩:=hq;cases hn
 |outgrown=>exact hq.elim
theorem Does.enter{P:Program}{T:Tab}{f g:FuncId}{k:Nat}{args:List SV}{O S:Hps}{Q:SV->Hps->Nat->Prop}{fn:Func}{c:Code}(hT:TabOK P T)(hcall:∀args w,(callFunc f args).run P w= .ok (.enter g args) w)
 (hf:P.funcs[g]?=some fn) (hb:fn.body=some c) (N:Nat) (hN:fn.ntmps=N) (hlen:Nat.ble args.length N=true) (res:List ResultVar) (hres:fn.results=res.toArray)
 (h:∀w0 F η0,η0.length=k->run ⟨P,⟨T,N,shB S,none⟩,w0,F,η0,none⟩ c (XK 0 args) O k (endQ ⟨P,⟨T,N,shB S,none⟩,w0,F,η0,none⟩ res Q)) (hND:Nat.ble N DS=true:=by rfl):Does P T f k args O S Q:=
 ⟨fun M vs a1 a2 a3 a4 a5 a6=>(Does.enterW (G:=fun _=>True) hT hcall hf hb N hN hlen res hres (fun w0 F η0 hk _ _=>h w0 F η0 hk) hND).out M vs a1 a2 a3 a4 a5 a6 trivial⟩
theorem IF.tt{J:Type}{A B:J->Prop}{j:J}(h:A j):IF true A B j:=⟨fun _=>h,fun e=>by cases e⟩
theorem IF.ff{J:Type}{A B:J->Prop}{j:J}(h:B j):IF false A B j:=⟨fun e=>(by cases e),fun _=>h⟩
theorem IF.yes{J:Type}{b:Bool}{A B:J->Prop}{j:J}(e:b=true)(h:A j):IF b A B j:=⟨fun _=>h,fun e'=>by rw[e]at e';cases e'⟩
theorem IF.no{J:Type}{b:Bool}{A B:J->Prop}{j:J}(e:b=false)(h:B j):IF b A B j:=⟨fun e'=>(by rw[e]at e';cases e'),fun _=>h⟩
theorem GET.at{rs:List (List SV)}{i:Nat}{K:List SV->Prop}{row:List SV}(h:rs[i]?=some row)(k:K row):GET rs i K:=⟨row,h,k⟩
theorem GET.map{α:Type}{f:α->List SV}{xs:List α}{i:Nat}{K:List SV->Prop}(h:i<xs.length)(k:K (f xs[i])):GET (xs.map f) i K:=⟨f xs[i],by simp[List.getElem?_eq_getElem h],k⟩
theorem GETG.map{α:Type}[Inhabited α]{f:α->List SV}{xs:List α}{i:Nat}{g:Prop}{K:List SV->Prop}(h:g->i<xs.length)(k:K (f (xs.getD i default))):GETG g (xs.map f) i K:=
 ⟨f (xs.getD i default),fun hg=>by have:=h hg;simp[List.getElem?_eq_getElem this,List.getD],k⟩
def Zj(L:List Nat)(nx:Nat)(j:Nat):Nat:=if j<L.length then L.getD j 0 else nx+(j-L.length)
def Yb(ks:List Nat):Hps->Hps
 | []=>[]
 |(i,h)::r=>match ks.any (Nat.beq i)with|true=>Yb ks r|false=>(i,h)::Yb ks r
def renO(σ:Nat->Nat):Hps->Hps
 | []=>[]
 |(i,h)::r=>(σ i,renH σ h)::renO σ r
def Zc:Hps->List Nat
 | []=>[]
 |(i,_)::r=>i::Zc r
theorem XL{O:Hps}{i:Nat}{h:Hp}(hi:lkp i O=some h):i∈Zc O:=by
 induction O with
 |nil=>simp[lkp]at hi
 |cons p O ih=>
  obtain⟨j,g⟩:=p;rw[Z8]at hi;split at hi
  ·rename_i e;subst e;exact List.mem_cons_self ..
  ·exact List.mem_cons_of_mem _ (ih hi)
theorem UW{ks:List Nat}:∀{O:Hps} {i:Nat} {h:Hp},lkp i (Yb ks O)=some h->i∉ks/\lkp i O=some h
 | [],i,h,hi=>by simp[Yb,lkp]at hi
 |(j,g)::O,i,h,hi=>by
  unfold Yb at hi
  have hany:ks.any (Nat.beq j)=true<->j∈ks:=by
   rw[List.any_eq_true];exact⟨fun⟨x,hx,hb⟩=>by rw[Zq hb];exact hx,fun h=>⟨j,h,YY j⟩⟩
  split at hi
  ·rename_i hk;obtain⟨h1,h2⟩:=UW hi;refine⟨h1,?_⟩;rw[Z8,if_neg ?_]
   ·exact h2
   ·intro e;subst e;exact h1 (hany.1 hk)
  ·rename_i hk;rw[Z8]at hi;split at hi
   ·rename_i e;subst e;injection hi with hi;subst hi;refine⟨fun h=>?_,by rw[Z8,if_pos rfl]⟩;rw[hany.2 h]at hk;cases hk
   ·rename_i e;obtain⟨h1,h2⟩:=UW hi;exact⟨h1,by rw[Z8,if_neg e];exact h2⟩
theorem Z7Y{σ:Nat->Nat}:∀{O:Hps} {i:Nat} {h:Hp},lkp i (renO σ O)=some h->∃j g,lkp j O=some g/\σ j=i/\h=renH σ g
 | [],i,h,hi=>by simp[renO,lkp]at hi
 |(j,g)::O,i,h,hi=>by
  simp only[renO]at hi;rw[Z8]at hi;split at hi
  ·rename_i e;injection hi with hi;exact⟨j,g,by rw[Z8,if_pos rfl],e.symm,hi.symm⟩
  ·rename_i e;obtain⟨j1,g1,h1,h2,h3⟩:=Z7Y hi;have hne:j1≠j:=by intro e';subst e';exact e h2.symm
   exact⟨j1,g1,by rw[Z8,if_neg hne];exact h1,h2,h3⟩
theorem XM{α:Type}{xs ys:List (Nat×α)}{i:Nat}{v:α}(h:lkp i (xs++ys)=some v):lkp i xs=some v\/(lkp i xs=none/\lkp i ys=some v):=by
 induction xs with
 |nil=>exact .inr ⟨rfl,h⟩
 |cons p xs ih=>
  obtain⟨j,u⟩:=p;rw[List.cons_append,Z8]at h;rw[Z8];split at h
  ·rename_i e;rw[if_pos e];exact .inl h
  ·rename_i e;rw[if_neg e];exact ih h
theorem Invokes.mono{P:Program}{f:FuncId}{args:Array Value}{w:World}{R R':Value->World->Prop}(h:Invokes P f args w R)(hr:∀v w',R v w'->R' v w'):Invokes P f args w R':=by
 rcases h with⟨g,h1,h2⟩|⟨v,w',h1,h2⟩
 ·exact .inl ⟨g,h1,h2.mono fun e w' ⟨v,h3,h4⟩=>⟨v,h3,hr v w' h4⟩⟩
 ·exact .inr ⟨v,w',h1,hr v w' h2⟩
theorem ZcM{S:Hps}{b:Blk}{h:Hp}(hb:lkpB b (shB S)=some h):∃j,b= .loc j/\(j,h)∈S:=by
 induction S with
 |nil=>simp[shB,lkpB]at hb
 |cons p S ih=>
  obtain⟨j,g⟩:=p;simp only[shB,List.map_cons,lkpB]at hb;split at hb
  ·rename_i e;injection hb with hb;subst hb;exact⟨j,blkEq_iff.1 e,List.mem_cons_self ..⟩
  ·obtain⟨j',h1,h2⟩:=ih hb;exact⟨j',h1,List.mem_cons_of_mem _ h2⟩
theorem Z3r{M:Mx}{args:List SV}{O:Hps}{nx k:Nat}{argsc:List SV}{Oc Sc:Hps}(L:List Nat)
 (hL:L.length=k) (hLn:∀i∈L,i<nx) (ha:args=renL (Zj L nx) argsc) (hb:ZS k argsc=true)
 (hO:∀p∈Oc,p.1<k/\lkp (Zj L nx p.1) O=some (renH (Zj L nx) p.2)/\Zs k p.2=true)
 (hOn:∀j∈Zc Oc,∀j'∈Zc Oc,Zj L nx j=Zj L nx j'->j=j')
 (hS:∀p∈Sc,p.1<k/\XF M.C O (.loc (Zj L nx p.1))=some (renH (Zj L nx) p.2)/\Zs k p.2=true/\Zj L nx p.1∉ (Zc Oc).map (Zj L nx)) {η:Env} {w:World} {vs:List Value} (H:HeapOK M η w O nx) (hd:DenL η args vs):
 ∃Mc:Mx,Mc.P=M.P/\Mc.C.T=M.C.T/\Mc.F=Yy Mc.η0 Mc.w0 Oc/\Mc.C.S=shB Sc/\Mc.w0=w/\HeapOK Mc Mc.η0 Mc.w0 Oc k/\DenL Mc.η0 argsc vs/\
  ∀r O' nx' η' v w',Mc.η0<+:η'->HeapOK Mc η' w' O' nx'->Den η' r v->∃η2,η<+:η2/\HeapOK M η2 w' (renO (Zj L nx) O'++Yb ((Zc Oc).map (Zj L nx)) O) (nx+(nx'-k))/\Den η2 (ren (Zj L nx) r) v:=by
 generalize hσ:Zj L nx=σ at*
 have hσlt:∀j,j<k->∃y,L[j]?=some (σ j)/\σ j<nx/\η[σ j]?=some y:=by
  intro j hj;have hj':j<L.length:=by omega
  have e:σ j=L[j]:=by rw[<-hσ];simp[Zj,hj',List.getD]
  have hlt:σ j<nx:=by rw[e];exact hLn _ (List.getElem_mem hj')
  refine⟨η[σ j]'(by rw[H.len];exact hlt),by rw[e];exact List.getElem?_eq_getElem hj',hlt,List.getElem?_eq_getElem _⟩
 have hσge:∀j,k<=j->σ j=nx+(j-k):=by
  intro j hj;rw[<-hσ];simp only[Zj,hL];rw[if_neg (by omega)]
 obtain⟨ηc,hηc⟩:∃ηc:Env,ηc=L.map (fun i=>(η[i]?).getD none):=⟨_,rfl⟩;have hclen:ηc.length=k:=by rw[hηc];simp[hL]
 have hcget:∀j,j<k->ηc[j]?=η[σ j]?:=by
  intro j hj;obtain⟨y,h1,h2,h3⟩:=hσlt j hj;rw[hηc,List.getElem?_map,h1];simp[h3]
 have hbwd:Bwd η ηc σ k:=fun j x hj hx=>by rw[hcget j hj];exact hx
 have hdc:DenL ηc argsc vs:=DenL.unren hbwd hb (by rw[<-ha];exact hd);have hOl:∀j h,lkp j Oc=some h->j<k/\lkp (σ j) O=some (renH σ h)/\Zs k h=true:=fun j h hj=>hO (j,h) (VP hj);have hto:∀{j:Nat},j<k->∀{h:Hp} {w:World} {n:Nat},feet ηc w (.loc j) h n->feet η w (.loc (σ j)) (renH σ h) n:=fun{j} hj {h w n} f=>f.ren fun x hx=>by rw[<-hcget j hj];exact hx
 have hF:∀n,Yy ηc w Oc n->∃j h,lkp j Oc=some h/\feet η w (.loc (σ j)) (renH σ h) n/\(M.F n\/M.w0.heap.size<=n):=by
  rintro n ⟨j,h,h1,f⟩;obtain⟨p1,p2,_⟩:=hOl j h h1;exact⟨j,h,h1,hto p1 f,(H.own.1 _ _ p2).2 n (hto p1 f)⟩
 have Hc:HeapOK {P:=M.P,C:={M.C with S:=shB Sc},w0:=w,F:=Yy ηc w Oc,η0:=ηc} ηc w Oc k:=by
  refine⟨List.prefix_rfl,hclen,⟨?_,?_⟩,FrW.refl _ _,?_⟩
  ·intro j h hj;obtain⟨p1,p2,p3⟩:=hOl j h hj;exact⟨(H.own.1 _ _ p2).1.unren hbwd p1 p3,fun n f=> .inl ⟨j,h,hj,f⟩⟩
  ·intro j j' h h' n hj hj' hne f f';obtain⟨p1,p2,_⟩:=hOl j h hj;obtain⟨q1,q2,_⟩:=hOl j' h' hj';exact H.own.2 _ _ _ _ n p2 q2 (fun hh=>hne (hOn j (XL hj) j' (XL hj') hh)) (hto p1 f) (hto q1 f')
  ·intro b h hbl;cases b with
   |glob g=>
    have hp:JG h=true:=List.all_eq_true.1 M.C.T.gplain (g,h) (VP hbl);obtain⟨s1,s2⟩:=H.sok (.glob g) h hbl;refine⟨(H.shared (b:= .glob g) hbl).plain hp,fun n f=>?_⟩;obtain⟨t1,t2⟩:=s2 g ⟨⟨g,0,0⟩,rfl, .inl rfl⟩;have hw:w.heap[g]?=M.w0.heap[g]?:=H.fr.block g t1 t2
    have f0:feet M.η0 M.w0 (.glob g) h n:=by
     obtain⟨e,h1,h2⟩:=f;cases h1
     exact⟨⟨g,0,0⟩,rfl,h2.imp id fun h=>h.keep hw⟩
    obtain⟨t1,t2⟩:=s2 n f0;refine⟨Nat.lt_of_lt_of_le t1 H.fr.size,fun hbb=>?_⟩;obtain⟨_,_,_,_,q4⟩:=hF _ hbb;rcases q4 with q4|q4
    ·exact t2 q4
    ·omega
   |loc j0=>
   obtain⟨j,hj0,hm⟩:=ZcM hbl;injection hj0 with hj0;subst j0;obtain⟨p1,p2,p3,p4⟩:=hS (j,h) hm;simp only at p1 p2 p3 p4;refine⟨(H.look p2).unren hbwd p1 p3,fun n f=>?_⟩;have f1:=hto p1 f;refine⟨(H.look p2).feet_lt f1,fun hbb=>?_⟩;obtain⟨j',h',q1,fq,q4⟩:=hF _ hbb;obtain⟨r1,r2,_⟩:=hOl j' h' q1;simp only[XF]at p2;cases ho:lkp (σ j) O with
   |some g=>
    have hne:σ j'≠σ j:=fun hh=>p4 (by rw[<-hh];exact List.mem_map_of_mem (XL q1));rw[ho]at p2;injection p2 with p2;subst p2;exact H.own.2 _ _ _ _ n r2 ho hne fq f1
   |none=>
    rw[ho]at p2;obtain⟨s1,s2⟩:=H.sok (.loc (σ j)) _ p2;obtain⟨x',hx',_⟩:=s1.lt;have f2:feet M.η0 M.w0 (.loc (σ j)) (renH σ h) n:=(f1.less H.pre hx').keep fun e he=>H.fr.block e.g (s2 e.g (feet.own he)).1 (s2 e.g (feet.own he)).2;obtain⟨t1,t2⟩:=s2 n f2;rcases q4 with q4|q4
    ·exact t2 q4
    ·omega
 refine⟨{P:=M.P,C:={M.C with S:=shB Sc},w0:=w,F:=Yy ηc w Oc,η0:=ηc},rfl,rfl,rfl,rfl,rfl,Hc,hdc,?_⟩;intro r O' nx' η' v w' hpre H' hdr;have hk':k<=nx':=by rw[<-H'.len,<-hclen];exact hpre.length_le
 have hfwd:Fwd η' (η++η'.drop k) σ:=by
  intro i x hx;by_cases hi:i<k
  ·obtain⟨y,h1,h2,h3⟩:=hσlt i hi;rw[List.getElem?_append_left (by rw[H.len];exact h2)]
   have:η'[i]?=ηc[i]?:=by
    obtain⟨t,rfl⟩:=hpre;rw[List.getElem?_append_left (by rw[hclen];exact hi)]
   rw[<-hcget i hi,<-this];exact hx
  ·rw[hσge i (by omega),List.getElem?_append_right (by rw[H.len];omega),H.len,List.getElem?_drop];rw[show k+(nx+(i-k)-nx)=i by omega];exact hx
 have hpre':η<+:η++η'.drop k:=List.prefix_append _ _;have hfr:FrW w w' (Yy ηc w Oc):=H'.fr;refine⟨η++η'.drop k,hpre',?_,hdr.ren hfwd⟩
 have hin:∀{i h},lkp i (renO σ O')=some h->∃j g,lkp j O'=some g/\σ j=i/\h=renH σ g/\HpSat (η++η'.drop k) w' true (.loc i) h/\∀n,feet (η++η'.drop k) w' (.loc i) h n->feet η' w' (.loc j) g n/\(Yy ηc w Oc n\/w.heap.size<=n):=by
  intro i h hi;obtain⟨j,g,h1,h2,h3⟩:=Z7Y hi;obtain⟨p1,p2⟩:=H'.own.1 j g h1;obtain⟨x,hx,_⟩:=p1.lt;have hx':(η++η'.drop k)[σ j]?=some x:=hfwd j x hx;refine⟨j,g,h1,h2,h3,?_,?_⟩
  ·rw[h3,<-h2];exact p1.ren hfwd
  ·intro n f;rw[h3,<-h2]at f;have f':feet η' w' (.loc j) g n:=f.unren fun y hy=>by rw[hx']at hy;injection hy with hy;rw[<-hy];exact hx
   exact⟨f',p2 n f'⟩
 have hout:∀{i h},lkp i (Yb ((Zc Oc).map σ) O)=some h->lkp i O=some h/\∀n,feet η w (.loc i) h n->n<w.heap.size/\¬Yy ηc w Oc n:=by
  intro i h hi;obtain⟨h1,h2⟩:=UW hi;refine⟨h2,fun n f=>⟨(H.own.1 i h h2).1.feet_lt f,fun hbb=>?_⟩⟩;obtain⟨j',h',q1,fq,q4⟩:=hF _ hbb;obtain⟨r1,r2,_⟩:=hOl j' h' q1;have hne:σ j'≠i:=fun hh=>h1 (by rw[<-hh];exact List.mem_map_of_mem (XL q1));exact H.own.2 _ _ _ _ n r2 h2 hne fq f
 have hkeep:∀{i h},lkp i (Yb ((Zc Oc).map σ) O)=some h->∀n,feet η w (.loc i) h n->w'.heap[n]?=w.heap[n]?:=fun hi n f=>hfr.block n ((hout hi).2 n f).1 ((hout hi).2 n f).2;have hback:∀{i h},lkp i (Yb ((Zc Oc).map σ) O)=some h->∀n,feet (η++η'.drop k) w' (.loc i) h n->feet η w (.loc i) h n:=fun hi n f=>H.stands hpre' (hout hi).1 (hkeep hi) f;refine⟨H.pre.trans hpre',?_,⟨?_,?_⟩,H.fr.trans hfr (fun n hn=>let⟨_,_,_,_,h⟩:=hF n hn;h),H.sok⟩
 ·rw[List.length_append,List.length_drop,H.len,H'.len]
 ·intro i h hi;rcases XM hi with hi|⟨_,hi⟩
  ·obtain⟨j,g,h1,h2,h3,h4,h5⟩:=hin hi;refine⟨h4,fun n f=>?_⟩;rcases(h5 n f).2 with hb'|hb'
   ·obtain⟨_,_,_,_,hh⟩:=hF _ hb';exact hh
   ·exact .inr (Nat.le_trans H.fr.size hb')
  ·have h3:=H.own.1 i h (hout hi).1;exact⟨(h3.1.keep (hkeep hi)).mono hpre',fun n f=>h3.2 n (hback hi n f)⟩
 ·intro i i' h h' n hi hi' hne f f';rcases XM hi with hi|⟨_,hi⟩<;>rcases XM hi' with hi'|⟨_,hi'⟩
  ·obtain⟨j,g,h1,h2,h3,h4,h5⟩:=hin hi;obtain⟨j',g',h1',h2',h3',h4',h5'⟩:=hin hi';exact H'.own.2 j j' g g' n h1 h1' (fun hj=>hne (by rw[<-h2,<-h2',hj])) (h5 n f).1 (h5' n f').1
  ·obtain⟨j,g,h1,h2,h3,h4,h5⟩:=hin hi;obtain⟨h7,h8⟩:=(hout hi').2 n (hback hi' n f');rcases(h5 n f).2 with hb'|hb'
   ·exact h8 hb'
   ·omega
  ·obtain⟨j,g,h1,h2,h3,h4,h5⟩:=hin hi';obtain⟨h7,h8⟩:=(hout hi).2 n (hback hi n f);rcases(h5 n f').2 with hb'|hb'
   ·exact h8 hb'
   ·omega
  ·exact H.own.2 i i' h h' n (hout hi).1 (hout hi').1 hne (hback hi n f) (hback hi' n f')
theorem CALL.of{M:Mx}{f:FuncId}{args:List SV}{O:Hps}{nx:Nat}{K:SV->Hps->Nat->Prop}{k:Nat}{argsc:List SV}{Oc Sc:Hps}{Q:SV->Hps->Nat->Prop}(L:List Nat)(sp:Does M.P M.C.T f k argsc Oc Sc Q)
 (hL:L.length=k) (hLn:∀i∈L,i<nx) (ha:args=renL (Zj L nx) argsc) (hb:ZS k argsc=true)
 (hO:∀p∈Oc,p.1<k/\lkp (Zj L nx p.1) O=some (renH (Zj L nx) p.2)/\Zs k p.2=true)
 (hOn:∀j∈Zc Oc,∀j'∈Zc Oc,Zj L nx j=Zj L nx j'->j=j')
 (hS:∀p∈Sc,p.1<k/\XF M.C O (.loc (Zj L nx p.1))=some (renH (Zj L nx) p.2)/\Zs k p.2=true/\Zj L nx p.1∉ (Zc Oc).map (Zj L nx))
 (hK:∀r O' nx',Q r O' nx'->K (ren (Zj L nx) r) (renO (Zj L nx) O'++Yb ((Zc Oc).map (Zj L nx)) O) (nx+(nx'-k))):CALL M f args O nx K:=by
 refine⟨fun η w vs H hd=>?_⟩;obtain⟨Mc,h1,h2,h3,h4,h5,h6,h7,h8⟩:=Z3r L hL hLn ha hb hO hOn hS H hd;refine(h1▸h5▸(sp.out Mc vs h1 h2 h3 h4 h6 h7)).mono ?_;rintro v w' ⟨r,O',nx',η',hq,hpre,H',hdr⟩;obtain⟨η2,k1,k2,k3⟩:=h8 r O' nx' η' v w' hpre H' hdr;exact⟨_,_,_,η2,k1,k2,k3,hK r O' nx' hq⟩
structure DoesE(P:Program)(T:Tab)(f:FuncId)(k:Nat)(args:List SV)(O S:Hps)(Q X:SV->Hps->Nat->Prop):Prop where
 out:∀(M:Mx) (vs:List Value),M.P=P->M.C.T=T->M.F=Yy M.η0 M.w0 O->M.C.S=shB S->HeapOK M M.η0 M.w0 O k->DenL M.η0 args vs->
  InvokesE M.P f ⟨vs⟩ M.w0 (fun v w'=> ∃r O' nx' η',Q r O' nx'/\M.η0<+:η'/\HeapOK M η' w' O' nx'/\Den η' r v) fun v w'=> ∃r O' nx' η',X r O' nx'/\M.η0<+:η'/\HeapOK M η' w' O' nx'/\Den η' r v
theorem InvokesE.mono{P:Program}{f:FuncId}{args:Array Value}{w:World}{R R' X X':Value->World->Prop}(h:InvokesE P f args w R X)(hr:∀v w',R v w'->R' v w')(hx:∀v w',X v w'->X' v w'):InvokesE P f args w R' X':=by
 rcases h with⟨g,h1,h2⟩|⟨v,w',h1,h2⟩
 ·exact .inl ⟨g,h1,h2.mono fun e w' h=>h.elim (fun⟨v,h3,h4⟩=> .inl ⟨v,h3,hr v w' h4⟩) fun⟨v,h3,h4⟩=> .inr ⟨v,h3,hx v w' h4⟩⟩
 ·exact .inr ⟨v,w',h1,hr v w' h2⟩
abbrev Mx.pan(M:Mx)(X:SV->Hps->Nat->Prop):Mx:={M with px:=some ([],fun v O nx=>FIN M O nx v X)}
theorem DoesE.enter{P:Program}{T:Tab}{f g:FuncId}{k:Nat}{args:List SV}{O S:Hps}{Q X:SV->Hps->Nat->Prop}{fn:Func}{c:Code}(hT:TabOK P T)(hcall:∀args w,(callFunc f args).run P w= .ok (.enter g args) w)
 (hf:P.funcs[g]?=some fn) (hb:fn.body=some c) (N:Nat) (hN:fn.ntmps=N) (hlen:Nat.ble args.length N=true) (res:List ResultVar) (hres:fn.results=res.toArray)
 (h:∀w0 F η0,η0.length=k->run ⟨P,⟨T,N,shB S,none⟩,w0,F,η0,some ([],fun v O nx=>FIN ⟨P,⟨T,N,shB S,none⟩,w0,F,η0,none⟩ O nx v X)⟩ c (XK 0 args) O k (endQ ⟨P,⟨T,N,shB S,none⟩,w0,F,η0,none⟩ res Q)) (hND:Nat.ble N DS=true:=by rfl):DoesE P T f k args O S Q X:=by
 refine⟨fun M vs hP hT' hF hS H hd=> .inl ⟨g,by rw[hP];exact hcall _ _,?_⟩⟩;obtain⟨P',⟨T',N',S',ro'⟩,w0,F,η0,px'⟩:=M;simp only at hP hT' hF hS H hd⊢;subst hP hT' hS;have hk:η0.length=k:=H.len;obtain⟨px,hpx⟩:∃px,px=some (([]:Fr),fun(v:SV) (O:Hps) (nx:Nat)=>FIN ⟨P',⟨T',N,shB S,none⟩,w0,F,η0,none⟩ O nx v X):=⟨_,rfl⟩;have H':HeapOK ⟨P',⟨T',N,shB S,none⟩,w0,F,η0,px⟩ η0 w0 O k:=⟨H.pre,H.len,H.own,H.fr,H.sok⟩;have hl:=ZJ hd;refine callsIn_wide (n:=0)|>.1 (callsIn_of_wp_marks hf hb trivial ?_)
 have hm:Models ⟨P',⟨T',N,shB S,none⟩,w0,F,η0,px⟩ η0 (XK 0 args) O k {tmps:=⟨vs⟩++Array.replicate (fn.ntmps-(Array.mk vs).size) undef,defers:=[]} w0:=by
  refine⟨H',?_,Nat.le_of_ble_eq_true hND,Wq (Nat.le_trans (Nat.le_of_ble_eq_true hlen) (Nat.le_of_ble_eq_true hND)),(fun l j h=>by cases h),?_⟩
  ·have:=Nat.le_of_ble_eq_true hlen;simp only[Array.size_append,Array.size_replicate,hN,List.size_toArray];show vs.length+(N-vs.length)=N
   omega
  ·intro t sv ht;obtain⟨v,_,h1,h2⟩:=Ud hd ht;have hlt:=(List.getElem?_eq_some_iff.1 h1).1;simp only[Nat.sub_zero]at h1 hlt;rw[Array.getD_eq_getD_getElem?,Array.getElem?_append_left (by simpa using hlt)];have:(Array.mk vs)[t]?=some v:=by simpa using h1
   rw[this];exact h2
 have hrun:=h w0 F η0 hk;rw[<-hpx]at hrun;refine Code.wpIn_mono ?_ (ZO hT c hrun η0 _ w0 hm)
 have fin:∀{η1:Env} {fr1:Fr} {O1:Hps} {nx1:Nat} {a:Act} {w1:World},Models ⟨P',⟨T',N,shB S,none⟩,w0,F,η0,px⟩ η1 fr1 O1 nx1 a w1->(Z2R fr1 O1 fun O1=>Uy ⟨T',N,shB S,none⟩ fr1 O1 res fun vs=>Z4i ⟨P',⟨T',N,shB S,none⟩,w0,F,η0,none⟩ O1 nx1 Q vs)->
  LeavesInM Fence.wide 0 P' fn a.tmps (fun e w'=>(∃v,e= .returned v/\∃r O' nx' η',Q r O' nx'/\η0<+:η'/\HeapOK ⟨P',⟨T',N',shB S,ro'⟩,w0,F,η0,px'⟩ η' w' O' nx'/\Den η' r v)\/∃v,e= .panicked [{v,recovered:=false}]/\∃r O' nx' η',X r O' nx'/\η0<+:η'/\HeapOK ⟨P',⟨T',N',shB S,ro'⟩,w0,F,η0,px'⟩ η' w' O' nx'/\Den η' r v) a.defers .returning w1:=by
  intro η1 fr1 O1 nx1 a w1 hm1 hr;refine Z1Z (M:=⟨P',⟨T',N,shB S,none⟩,w0,F,η0,px⟩) (K:=fun r O nx=>FIN ⟨P',⟨T',N,shB S,none⟩,w0,F,η0,none⟩ O nx r Q) hT hres hm1 (by simpa only[Z4j]using hr) fun w2 O2 v r H2 hd2 hk=>?_;obtain⟨r',O',nx',η',h5,h6,h7,h8⟩:=hk.out η1 w2 v ⟨H2.pre,H2.len,H2.own,H2.fr,H2.sok⟩ hd2;exact .inl ⟨v,rfl,r',O',nx',η',h5,h6,⟨h7.pre,h7.len,h7.own,h7.fr,h7.sok⟩,h8⟩
 intro e a w hq;cases e with
 |normal=>obtain⟨η1,fr1,O1,nx1,hm1,hq⟩:=hq;exact fin hm1 hq
 |ret=>obtain⟨η1,fr1,O1,nx1,hm1,hq⟩:=hq;exact fin hm1 hq
 |exit id=>obtain⟨η1,fr1,O1,nx1,hm1,hq⟩:=hq;exact hq.out.elim
 |goto l=>exact hq.elim
 |panic ch=>
  obtain⟨kp,X',h1,η1,O1,nx1,v,sv,rfl,hm1,hd1,hx⟩:=hq;rw[hpx]at h1;injection h1 with h1;injection h1 with h1 h2;subst h1 h2;obtain⟨r',O',nx',η',h5,h6,h7,h8⟩:=FIN.out hx η1 w v ⟨hm1.heap.pre,hm1.heap.len,hm1.heap.own,hm1.heap.fr,hm1.heap.sok⟩ hd1;have hdf:a.defers=[]:=hm1.defers;show LeavesInM _ _ _ _ _ _ a.defers _ w
  rw[hdf];exact .inr ⟨v,rfl,r',O',nx',η',h5,h6,⟨h7.pre,h7.len,h7.own,h7.fr,h7.sok⟩,h8⟩
 |outgrown=>exact hq.elim
theorem CALLE.calm{M:Mx}{f:FuncId}{args:List SV}{O:Hps}{nx:Nat}{KP K:SV->Hps->Nat->Prop}(h:CALL M f args O nx K):CALLE M f args O nx KP K:=by
 refine⟨fun η w vs H hd=>?_⟩;rcases h.out η w vs H hd with⟨g,h1,h2⟩|⟨v,w',h1,h2⟩
 ·exact .inl ⟨g,h1,h2.mono fun e w' h=> .inl h⟩
 ·exact .inr ⟨v,w',h1,h2⟩
theorem CALLE.of{M:Mx}{f:FuncId}{args:List SV}{O:Hps}{nx:Nat}{KP K:SV->Hps->Nat->Prop}{k:Nat}{argsc:List SV}{Oc Sc:Hps}{Q X:SV->Hps->Nat->Prop}(L:List Nat)(sp:DoesE M.P M.C.T f k argsc Oc Sc Q X)
 (hL:L.length=k) (hLn:∀i∈L,i<nx) (ha:args=renL (Zj L nx) argsc) (hb:ZS k argsc=true)
 (hO:∀p∈Oc,p.1<k/\lkp (Zj L nx p.1) O=some (renH (Zj L nx) p.2)/\Zs k p.2=true)
 (hOn:∀j∈Zc Oc,∀j'∈Zc Oc,Zj L nx j=Zj L nx j'->j=j')
 (hS:∀p∈Sc,p.1<k/\XF M.C O (.loc (Zj L nx p.1))=some (renH (Zj L nx) p.2)/\Zs k p.2=true/\Zj L nx p.1∉ (Zc Oc).map (Zj L nx))
 (hK:∀r O' nx',Q r O' nx'->K (ren (Zj L nx) r) (renO (Zj L nx) O'++Yb ((Zc Oc).map (Zj L nx)) O) (nx+(nx'-k)))
 (hX:∀r O' nx',X r O' nx'->KP (ren (Zj L nx) r) (renO (Zj L nx) O'++Yb ((Zc Oc).map (Zj L nx)) O) (nx+(nx'-k))):CALLE M f args O nx KP K:=by
 refine⟨fun η w vs H hd=>?_⟩;obtain⟨Mc,h1,h2,h3,h4,h5,h6,h7,h8⟩:=Z3r L hL hLn ha hb hO hOn hS H hd;refine(h1▸h5▸(sp.out Mc vs h1 h2 h3 h4 h6 h7)).mono ?_ ?_
 ·rintro v w' ⟨r,O',nx',η',hq,hpre,H',hdr⟩;obtain⟨η2,k1,k2,k3⟩:=h8 r O' nx' η' v w' hpre H' hdr;exact⟨_,_,_,η2,k1,k2,k3,hK r O' nx' hq⟩
 ·rintro v w' ⟨r,O',nx',η',hq,hpre,H',hdr⟩;obtain⟨η2,k1,k2,k3⟩:=h8 r O' nx' η' v w' hpre H' hdr;exact⟨_,_,_,η2,k1,k2,k3,hX r O' nx' hq⟩
theorem CALL.val{M:Mx}{f:FuncId}{args:List SV}{O:Hps}{nx:Nat}{K:SV->Hps->Nat->Prop}{r:SV}(sp:Does M.P M.C.T f 0 args [] [] fun r' O' nx'=>r'=r/\O'=[]/\nx'=0)(hp:YC args=true)(hr:plain r=true)(hK:K r O nx):CALL M f args O nx K:=by
 refine CALL.of [] sp rfl (fun i hi=>by cases hi) (Yd _ hp).symm (ZM 0 hp) (fun p hp=>by cases hp) (fun j hj=>by cases hj) (fun p hp=>by cases hp) ?_;rintro r' O' nx' ⟨rfl,rfl,rfl⟩;rw[J0 _ hr]
 have:Yb ((Zc []).map (Zj [] nx)) O=O:=by
  clear hK sp
  induction O with
  |nil=>rfl
  |cons p O ih=>obtain⟨i,h⟩:=p;simp only[Yb,Zc,List.map_nil,List.any_nil]at ih⊢;rw[ih]
 rw[this];simpa[renO]using hK
def Val(r0:SV):SV->Hps->Nat->Prop:=fun r O nx=>r=r0/\O=[]/\nx=0
theorem CALL.value{M:Mx}{f:FuncId}{args:List SV}{O:Hps}{nx:Nat}{K:SV->Hps->Nat->Prop}{r:SV}(sp:Does M.P M.C.T f 0 args [] [] (Val r))(hp:YC args=true)(hr:plain r=true)(hK:K r O nx):CALL M f args O nx K:=CALL.val sp hp hr hK
def SubS(C:Cx)(O:Hps)(σ:Nat->Nat)(k:Nat):Hps->Prop
 | []=>True
 |(i,h)::r=>(Nat.blt i k=true/\XF C O (.loc (σ i))=some (renH σ h)/\Zs k h=true)/\SubS C O σ k r
theorem SubS.at{C:Cx}{O:Hps}{σ:Nat->Nat}{k:Nat}:∀{S:Hps},SubS C O σ k S->∀p∈S,p.1<k/\XF C O (.loc (σ p.1))=some (renH σ p.2)/\Zs k p.2=true
 | [],_,p,hp=>by cases hp
 |(i,h)::r,hs,p,hp=>by
  rcases List.mem_cons.1 hp with rfl|hp
  ·exact⟨by simpa[Nat.blt_eq]using hs.1.1,hs.1.2⟩
  ·exact SubS.at hs.2 p hp
theorem Vn:∀O:Hps,Yb [] O=O
 | []=>rfl
 |(i,h)::O=>by
  have ih:=Vn O;simp only[Yb,List.any_nil]at ih⊢;rw[ih]
theorem CALL.look{M:Mx}{f:FuncId}{args:List SV}{O:Hps}{nx:Nat}{K:SV->Hps->Nat->Prop}{k:Nat}{argsc:List SV}{Sc:Hps}{Q:SV->Hps->Nat->Prop}(L:List Nat)(sp:Does M.P M.C.T f k argsc [] Sc Q)
 (hL:L.length=k) (hLn:L.all (fun i=>Nat.blt i nx)=true) (ha:args=renL (Zj L nx) argsc) (hb:ZS k argsc=true) (hS:SubS M.C O (Zj L nx) k Sc)
 (hK:∀r O' nx',Q r O' nx'->K (ren (Zj L nx) r) (renO (Zj L nx) O'++O) (nx+(nx'-k))):CALL M f args O nx K:=by
 refine CALL.of L sp hL (fun i hi=>by have:=List.all_eq_true.1 hLn i hi;simpa[Nat.blt_eq]using this) ha hb (fun p hp=>by cases hp) (fun j hj=>by cases hj) (fun p hp=>?_) (fun r O' nx' h=>?_)
 ·obtain⟨h1,h2,h3⟩:=hS.at p hp;exact⟨h1,h2,h3,fun h=>by cases h⟩
 ·have:=hK r O' nx' h;simpa[Zc,Vn]using this
def ValK(k:Nat)(r0:SV):SV->Hps->Nat->Prop:=fun r O nx=>r=r0/\O=[]/\nx=k
theorem CALL.looks{M:Mx}{f:FuncId}{args:List SV}{O:Hps}{nx:Nat}{K:SV->Hps->Nat->Prop}{k:Nat}{argsc:List SV}{Sc:Hps}{r:SV}(L:List Nat)(sp:Does M.P M.C.T f k argsc [] Sc (ValK k r))
 (hL:L.length=k) (hLn:L.all (fun i=>Nat.blt i nx)=true) (ha:args=renL (Zj L nx) argsc) (hb:ZS k argsc=true) (hS:SubS M.C O (Zj L nx) k Sc) (hK:K (ren (Zj L nx) r) O nx):CALL M f args O nx K:=by
 refine CALL.look L sp hL hLn ha hb hS ?_;rintro r' O' nx' ⟨rfl,rfl,rfl⟩;simpa[renO]using hK
theorem Does.says{P:Program}{T:Tab}{f:FuncId}{args:List SV}{r:SV}(h:∀η w vs,DenL η args vs->∃v,(callFunc f ⟨vs⟩).run P w= .ok (.value v) w/\Den η r v):Does P T f 0 args [] [] (Val r):=by
 refine⟨fun M vs hP hT hF hS H hd=>?_⟩;obtain⟨v,h1,h2⟩:=h M.η0 M.w0 vs hd;exact .inr ⟨v,M.w0,by rw[hP];exact h1,r,[],0,M.η0,⟨rfl,rfl,rfl⟩,List.prefix_rfl,⟨H.pre,H.len,⟨fun i h hi=>by simp[lkp]at hi,fun i j h h' n hi=>by simp[lkp]at hi⟩,H.fr,H.sok⟩,h2⟩
theorem FIN.val{M:Mx}{O:Hps}{nx k:Nat}{r:SV}{Q:SV->Hps->Nat->Prop}(hk:M.η0.length=k)(hp:plain r=true)(hQ:Q r [] k):FIN M O nx r Q:=by
 refine⟨fun η w v H hd=>⟨r,[],k,M.η0,hQ,List.prefix_rfl,⟨List.prefix_rfl,hk,⟨fun i h hi=>by simp[lkp]at hi,fun i j h h' n hi=>by simp[lkp]at hi⟩,H.fr,H.sok⟩,?_⟩⟩;have hb:Bwd η M.η0 (fun i=>i) 0:=fun i x hi=>by omega
 exact Den.unren hb (XI 0 hp) (by rw[J0 _ hp];exact hd)
theorem FIN.value{M:Mx}{O:Hps}{nx:Nat}{r r0:SV}(hk:M.η0.length=0)(hp:plain r=true)(hQ:r=r0):FIN M O nx r (Val r0):=FIN.val hk hp ⟨hQ,rfl,rfl⟩
theorem FIN.valueK{M:Mx}{O:Hps}{nx k:Nat}{r r0:SV}(hk:M.η0.length=k)(hp:plain r=true)(hQ:r=r0):FIN M O nx r (ValK k r0):=FIN.val hk hp ⟨hQ,rfl,rfl⟩
def Yw(k:Nat)(τ:List Nat)(j:Nat):Nat:=if j<k then j else τ.getD (j-k) 0
theorem HeapOK.names{M:Mx}{η:Env}{w:World}{O:Hps}{nx k:Nat}(H:HeapOK M η w O nx)(hk:M.η0.length=k)(τ:List Nat){Oc:Hps}(hτ:∀i∈τ,i<nx)
 (hO:∀p∈Oc,p.1<k+τ.length/\lkp (Yw k τ p.1) O=some (renH (Yw k τ) p.2)/\Zs (k+τ.length) p.2=true)
 (hn:∀j∈Zc Oc,∀j'∈Zc Oc,Yw k τ j=Yw k τ j'->j=j'):∃η',M.η0<+:η'/\HeapOK M η' w Oc (k+τ.length)/\Bwd η η' (Yw k τ) (k+τ.length):=by
 generalize hσ:Yw k τ=σ at*;obtain⟨η',hη'⟩:∃η':Env,η'=M.η0++τ.map (fun i=>(η[i]?).getD none):=⟨_,rfl⟩
 have hget:∀j,j<k+τ.length->η'[j]?=η[σ j]?:=by
  intro j hj;rw[hη',<-hσ];by_cases h:j<k
  ·rw[List.getElem?_append_left (by omega)];simp only[Yw,if_pos h];obtain⟨t,ht⟩:=H.pre;rw[<-ht,List.getElem?_append_left (by omega)]
  ·rw[List.getElem?_append_right (by omega),hk,List.getElem?_map];have hlt:j-k<τ.length:=by omega
   simp only[Yw,if_neg h,List.getElem?_eq_getElem hlt,Option.map_some,List.getD,Option.getD_some];have:=hτ _ (List.getElem_mem hlt);rw[List.getElem?_eq_getElem (by rw[H.len];exact this)]
   rfl
 have hbwd:Bwd η η' σ (k+τ.length):=fun j x hj hx=>by rw[hget j hj];exact hx
 have hOl:∀j h,lkp j Oc=some h->j<k+τ.length/\lkp (σ j) O=some (renH σ h)/\Zs (k+τ.length) h=true:=fun j h hj=>hO (j,h) (VP hj);refine⟨η',by rw[hη'];exact List.prefix_append _ _,⟨by rw[hη'];exact List.prefix_append _ _,by rw[hη'];simp[hk],⟨?_,?_⟩,H.fr,H.sok⟩,hbwd⟩
 ·intro j h hj;obtain⟨p1,p2,p3⟩:=hOl j h hj;exact⟨(H.own.1 _ _ p2).1.unren hbwd p1 p3,fun n f=>(H.own.1 _ _ p2).2 n (f.ren fun x hx=>by rw[<-hget j p1];exact hx)⟩
 ·intro j j' h h' n hj hj' hne f f';obtain⟨p1,p2,_⟩:=hOl j h hj;obtain⟨q1,q2,_⟩:=hOl j' h' hj';exact H.own.2 _ _ _ _ n p2 q2 (fun hh=>hne (hn j (XL hj) j' (XL hj') hh)) (f.ren fun x hx=>by rw[<-hget j p1];exact hx) (f'.ren fun x hx=>by rw[<-hget j' q1];exact hx)
theorem FIN.keep{M:Mx}{O:Hps}{nx k:Nat}{r:SV}{Q:SV->Hps->Nat->Prop}(hk:M.η0.length=k)(τ:List Nat){rc:SV}{Oc:Hps}(hτ:∀i∈τ,i<nx)(hr:r=ren (Yw k τ) rc)(hb:ZR (k+τ.length) rc=true)
 (hO:∀p∈Oc,p.1<k+τ.length/\lkp (Yw k τ p.1) O=some (renH (Yw k τ) p.2)/\Zs (k+τ.length) p.2=true)
 (hn:∀j∈Zc Oc,∀j'∈Zc Oc,Yw k τ j=Yw k τ j'->j=j') (hQ:Q rc Oc (k+τ.length)):FIN M O nx r Q:=by
 refine⟨fun η w v H hd=>?_⟩;obtain⟨η',h1,h2,h3⟩:=H.names hk τ hτ hO hn;exact⟨rc,Oc,k+τ.length,η',hQ,h1,h2,Den.unren h3 hb (by rw[<-hr];exact hd)⟩
def SubFr(σ:Nat->Nat)(m:Nat)(fr:Fr):Fr->Prop
 | []=>True
 |(t,v)::r=>(lkp t fr=some (ren σ v)/\ZR m v=true)/\SubFr σ m fr r
theorem SubFr.at{σ:Nat->Nat}{m:Nat}{fr:Fr}:∀{fr':Fr},SubFr σ m fr fr'->∀t v,lkp t fr'=some v->lkp t fr=some (ren σ v)/\ZR m v=true
 | [],_,t,v,h=>by simp[lkp]at h
 |(d,u)::r,hs,t,v,h=>by
  rw[Z8]at h;split at h
  ·rename_i e;subst e;injection h with h;subst h;exact hs.1
  ·exact SubFr.at hs.2 t v h
def SubO(σ:Nat->Nat)(m:Nat)(O:Hps):Hps->Prop
 | []=>True
 |(i,h)::r=>(Nat.blt i m=true/\lkp (σ i) O=some (renH σ h)/\Zs m h=true)/\SubO σ m O r
theorem SubO.at{σ:Nat->Nat}{m:Nat}{O:Hps}:∀{O':Hps},SubO σ m O O'->∀p∈O',p.1<m/\lkp (σ p.1) O=some (renH σ p.2)/\Zs m p.2=true
 | [],_,p,hp=>by cases hp
 |(i,h)::r,hs,p,hp=>by
  rcases List.mem_cons.1 hp with rfl|hp
  ·exact⟨by simpa[Nat.blt_eq]using hs.1.1,hs.1.2⟩
  ·exact SubO.at hs.2 p hp
def Z6P:Option SV->Bool
 |some (.dfs _)=>true
 |_=>false
def Z0t(fr fr':Fr):Bool:=match Z6P (lkp DS fr)with
 |true=>Z6P (lkp DS fr')
 |false=>!(Z6P (lkp DS fr'))
theorem DfOK.no{η:Env}{ds:List Deferred}{v:Option SV}(h:Z6P v=false):DfOK η ds v<->ds=[]:=by
 cases v with
 |none=>exact Iff.rfl
 |some v=>cases v<;>first|exact Iff.rfl|cases h
theorem DfOK.goes{η η':Env}{σ:Nat->Nat}{m:Nat}{fr fr':Fr}{ds:List Deferred}(hb:Bwd η η' σ m)(hd:Z0t fr fr'=true)(hf:∀v,lkp DS fr'=some v->lkp DS fr=some (ren σ v)/\ZR m v=true)(h:DfOK η ds (lkp DS fr)):DfOK η' ds (lkp DS fr'):=by
 unfold Z0t at hd;split at hd
 ·cases hv:lkp DS fr' with
  |none=>rw[hv]at hd;cases hd
  |some v=>
   rw[hv]at hd;cases v with
   |dfs l=>
    obtain⟨h1,h2⟩:=hf _ hv;rw[h1]at h;simp only[DfOK,ren]at h⊢;exact DfL.unren hb (by simpa only[ZR]using h2) h
   |_=>cases hd
 ·rename_i h1;rw[DfOK.no h1]at h;rw[DfOK.no (by simpa using hd)];exact h
def Z0u(ro:Option (Nat×Nat))(σ:Nat->Nat)(m:Nat):Bool:=match ro with
 |none=>true
 |some p=>Nat.blt p.2 m&&Nat.beq (σ p.2) p.2
theorem Z5F{ro:Option (Nat×Nat)}{σ:Nat->Nat}{m l j:Nat}(h:Z0u ro σ m=true)(hr:ro=some (l,j)):j<m/\σ j=j:=by
 subst hr;simp only[Z0u,Bool.and_eq_true,Nat.blt_eq]at h;exact⟨h.1,Zq h.2⟩
theorem GOES.keep{M:Mx}{fr:Fr}{O:Hps}{nx k:Nat}{fr':Fr}{O':Hps}(hk:M.η0.length=k)(τ:List Nat)(hτ:τ.all (fun i=>Nat.blt i nx)=true)(hf:SubFr (Yw k τ) (k+τ.length) fr fr')(hO:SubO (Yw k τ) (k+τ.length) O O')
 (hn:(Zc O').all (fun j=>(Zc O').all fun j'=>!(Nat.beq (Yw k τ j) (Yw k τ j'))||Nat.beq j j')=true) (hd:Z0t fr fr'=true:=by rfl) (hro:Z0u M.C.ro (Yw k τ) (k+τ.length)=true:=by rfl):GOES M fr O nx fr' O' (k+τ.length):=by
 refine⟨fun η a w hm=>?_⟩
 obtain⟨η',h1,h2,h3⟩:=hm.heap.names hk τ (fun i hi=>by have:=List.all_eq_true.1 hτ i hi;simpa[Nat.blt_eq]using this) hO.at (fun j hj j' hj' he=>by
  have:=List.all_eq_true.1 (List.all_eq_true.1 hn j hj) j' hj';simp only[he,YY,Bool.not_true,Bool.false_or]at this
  exact Zq this)
 refine⟨η',h2,hm.size,hm.nds,hm.defers.goes h3 hd (fun v hv=>hf.at DS v hv),fun l j hj=>?_,fun t v ht=>?_⟩
 ·obtain⟨h4,h5⟩:=Z5F hro hj;obtain⟨e,h6,h7⟩:=hm.ro l j hj;exact⟨e,h3 j _ h4 (by rw[h5];exact h6),h7⟩
 obtain⟨h4,h5⟩:=hf.at t v ht;exact Den.unren h3 h5 (hm.frame t _ h4)
theorem Does.calls{P:Program}{T:Tab}{g:FuncId}{args:List SV}{r:SV}{vs:List Value}{w:World}(sp:Does P T g 0 args [] [] (Val r))(eg:∀args w,(callFunc g args).run P w= .ok (.enter g args) w)(hd:DenL [] args vs)
 (hg:∀g h,lkp g T.globs=some h->HpSat [] w false (.glob g) h/\g<w.heap.size):
 Calls P g ⟨vs⟩ w fun e w'=> ∃v,e= .returned v/\Den [] r v/\FrW w w' fun _=>False:=by
 have H:HeapOK ⟨P,⟨T,0,[],none⟩,w,fun _=>False,[],none⟩ [] w [] 0:=⟨List.prefix_rfl,rfl,⟨fun i h hi=>by simp[lkp]at hi,fun i j h h' n hi=>by simp[lkp]at hi⟩,FrW.refl _ _,fun b h hb=>by
  cases b with
  |loc i=>simp[lkS,lkpB]at hb
  |glob g=>
   obtain⟨h1,h2⟩:=hg g h hb
   exact⟨h1,fun k f=>⟨h1.feet_lt f,fun h=>h⟩⟩⟩
 have hF:(fun _=>False:Nat->Prop)=Yy [] w []:=by
  funext n;simp[Yy,lkp]
 rcases sp.out ⟨P,⟨T,0,[],none⟩,w,fun _=>False,[],none⟩ vs rfl rfl hF rfl H hd with⟨g',h1,h2⟩|⟨v,w',h1,_⟩
 ·rw[eg]at h1;injection h1 with h1 _;injection h1 with h1 _;subst h1;refine h2.mono fun e w' he=>?_;obtain⟨v,rfl,r',O',nx',η',⟨rfl,rfl,rfl⟩,_,h4,h5⟩:=he;have:η'=[]:=List.length_eq_zero_iff.1 h4.len;subst this;exact⟨v,rfl,h5,h4.fr⟩
 ·rw[eg]at h1;cases h1
section
variable {σ:Nat->Nat}
theorem Z4n(h:∀j,σ j=j):∀b,renB σ b=b
 | .glob g=>rfl
 | .loc i=>by simp only[renB,h]
mutual
theorem Z2c(h:∀j,σ j=j):∀v,ren σ v=v
 | .bool _=>rfl
 | .int _ _=>rfl
 | .str _=>rfl
 | .val _=>rfl
 | .any=>rfl
 | .nb _=>rfl
 | .dfs l=>by simp only[ren,VS h l]
 | .yf b=>by simp only[ren,Z4n h]
 | .mp b=>by simp only[ren,Z4n h]
 | .ptr b _ _ _=>by simp only[ren,Z4n h]
 | .sl b _ _ _ _=>by simp only[ren,Z4n h]
 | .agg cs=>by simp only[ren,VS h cs]
 | .arr _ rs=>by simp only[ren,Wu h rs]
 | .tup vs=>by simp only[ren,VS h vs]
 | .ifc _ v=>by simp only[ren,Z2c h v]
 | .fn _ a b=>by simp only[ren,VS h a,VS h b]
theorem VS(h:∀j,σ j=j):∀vs,renL σ vs=vs
 | []=>rfl
 |c::cs=>by simp only[renL,Z2c h c,VS h cs]
theorem Wu(h:∀j,σ j=j):∀vs,X9 σ vs=vs
 | []=>rfl
 |c::cs=>by simp only[X9,VS h c,Wu h cs]
end
theorem ZaA(h:∀j,σ j=j):∀fr,renF σ fr=fr
 | []=>rfl
 |(t,v)::r=>by simp only[renF,Z2c h v,ZaA h r]
theorem Zf2(h:∀j,σ j=j):∀c,renC σ c=c
 | .v s=>by simp only[renC,Z2c h]
 | .kid _ rs=>by simp only[renC,Wu h]
theorem Z81(h:∀j,σ j=j):∀r,Wm σ r=r
 | []=>rfl
 |c::cs=>by simp only[Wm,Zf2 h,Z81 h cs]
theorem Z5K(h:∀j,σ j=j):∀r,Xo σ r=r
 | []=>rfl
 |c::cs=>by simp only[Xo,Z81 h,Z5K h cs]
theorem Zf3(h:∀j,σ j=j):∀hp,renH σ hp=hp
 | .deep _ _ _=>by simp only[renH,Z5K h]
 | .box _=>by simp only[renH,VS h]
 | .rows _ _=>by simp only[renH,Wu h]
 | .siter _ _=>rfl
 | .tbl _=>rfl
 | .bld _ _ _=>rfl
 | .dfr _=>rfl
 | .lp _ _ fr=>by simp only[renH,ZaA h]
 | .mp _=>by simp only[renH,Wu h]
end
def CutFr(m:Nat)(fr:Fr):Fr->Prop
 | []=>True
 |(t,v)::r=>(lkp t fr=some v/\ZR m v=true)/\CutFr m fr r
def CutO(m:Nat)(O:Hps):Hps->Prop
 | []=>True
 |(i,h)::r=>(lkp i O=some h/\Nat.blt i m=true/\Zs m h=true)/\CutO m O r
theorem CutFr.at{m:Nat}{fr:Fr}:∀{fr':Fr},CutFr m fr fr'->∀t v,lkp t fr'=some v->lkp t fr=some v/\ZR m v=true
 | [],_,t,v,h=>by simp[lkp]at h
 |(d,u)::r,hs,t,v,h=>by
  rw[Z8]at h;split at h
  ·rename_i e;subst e;injection h with h;subst h;exact hs.1
  ·exact CutFr.at hs.2 t v h
theorem CutO.at{m:Nat}{O:Hps}:∀{O':Hps},CutO m O O'->∀i h,lkp i O'=some h->lkp i O=some h/\i<m/\Zs m h=true
 | [],_,t,v,h=>by simp[lkp]at h
 |(d,u)::r,hs,t,v,h=>by
  rw[Z8]at h;split at h
  ·rename_i e;subst e;injection h with h;subst h
   exact⟨hs.1.1,by simpa[Nat.blt_eq]using hs.1.2.1,hs.1.2.2⟩
  ·exact CutO.at hs.2 t v h
variable {M:Mx}{fr fr':Fr}{O O':Hps}{nx:Nat}
theorem GOES.cut{k:Nat}(m:Nat)(hk:M.η0.length=k)(hkm:Nat.ble k m=true)(hmn:Nat.ble m nx=true)(hf:CutFr m fr fr')(hO:CutO m O O')(hd:Z0t fr fr'=true:=by rfl)(hro:Z0u M.C.ro id m=true:=by rfl):GOES M fr O nx fr' O' m:=by
 have hkm:=Nat.le_of_ble_eq_true hkm;have hmn:=Nat.le_of_ble_eq_true hmn;refine⟨fun η a w hm=>?_⟩;have hid:∀j:Nat,id j=j:=fun _=>rfl
 have hbwd:Bwd η (η.take m) id m:=fun i x hi hx=>by
  simp only[id]at hx;rw[List.getElem?_take,if_pos hi];exact hx
 have hlen:(η.take m).length=m:=by rw[List.length_take,hm.heap.len];omega
 refine⟨η.take m,⟨?_,hlen,⟨fun i h hi=>?_,fun i j h h' n hi hj hij f f'=>?_⟩,hm.heap.fr,hm.heap.sok⟩,hm.size,hm.nds,hm.defers.goes hbwd hd (fun v hv=>by rw[Z2c hid];exact hf.at DS v hv),fun l j hj=>?_,fun t v ht=>?_⟩
 ·obtain⟨t,ht⟩:=hm.heap.pre;refine⟨t.take (m-k),?_⟩;rw[<-ht,List.take_append,hk,List.take_of_length_le (l:=M.η0) (by omega)]
 ·obtain⟨h1,h2,h3⟩:=hO.at i h hi;refine⟨HpSat.unren hbwd h2 h3 ?_,fun n f=>(hm.heap.own.1 i h h1).2 n (f.mono (List.take_prefix m η))⟩;rw[Zf3 hid];exact(hm.heap.own.1 i h h1).1
 ·obtain⟨h1,h2,h3⟩:=hO.at i h hi;obtain⟨h4,h5,h6⟩:=hO.at j h' hj;exact hm.heap.own.2 i j h h' n h1 h4 hij (f.mono (List.take_prefix m η)) (f'.mono (List.take_prefix m η))
 ·obtain⟨h4,_⟩:=Z5F hro hj;obtain⟨e,h6,h7⟩:=hm.ro l j hj;exact⟨e,hbwd j _ h4 h6,h7⟩
 ·obtain⟨h1,h2⟩:=hf.at t v ht;exact Den.unren hbwd h2 (by rw[Z2c hid];exact hm.frame t v h1)
def cutK(fr:Fr):Fr->Prop
 | []=>True
 |(t,v)::r=>match lkp t fr with
  |some u=>u=v/\cutK fr r
  |none=>False
def ZaB(O:Hps):Hps->Prop
 | []=>True
 |(i,h)::r=>match lkp i O with
  |some g=>g=h/\ZaB O r
  |none=>False
def Vr(m:Nat):Fr->Bool
 | []=>true
 |(_,v)::r=>ZR m v&&Vr m r
def Zw(m:Nat):Hps->Bool
 | []=>true
 |(i,h)::r=>Nat.blt i m&& (Zs m h&&Zw m r)
theorem ZaC{m:Nat}{fr:Fr}:∀{fr':Fr},cutK fr fr'->Vr m fr'=true->CutFr m fr fr'
 | [],_,_=>trivial
 |(t,v)::r,h,b=>by
  simp only[cutK]at h;simp only[Vr,Bool.and_eq_true]at b;split at h
  ·rename_i u hu;obtain⟨rfl,h⟩:=h;exact⟨⟨hu,b.1⟩,ZaC h b.2⟩
  ·exact h.elim
theorem ZaD{m:Nat}{O:Hps}:∀{O':Hps},ZaB O O'->Zw m O'=true->CutO m O O'
 | [],_,_=>trivial
 |(t,v)::r,h,b=>by
  simp only[ZaB]at h;simp only[Zw,Bool.and_eq_true]at b;split at h
  ·rename_i u hu;obtain⟨rfl,h⟩:=h;exact⟨⟨hu,b.1,b.2.1⟩,ZaD h b.2.2⟩
  ·exact h.elim
theorem GOES.cutting{k m:Nat}(hk:M.η0.length=k)(hkm:Nat.ble k m=true)(hmn:Nat.ble m nx=true)(hbf:Vr m fr'=true)(hbo:Zw m O'=true)(hf:cutK fr fr')(hO:ZaB O O')(hd:Z0t fr fr'=true:=by rfl)(hro:Z0u M.C.ro id m=true:=by rfl):GOES M fr O nx fr' O' m:=
 GOES.cut m hk hkm hmn (ZaC hf hbf) (ZaD hO hbo) hd hro
theorem GOES.trans{fr2:Fr}{O2:Hps}{n1 n2:Nat}(h:GOES M fr O nx fr' O' n1)(k:GOES M fr' O' n1 fr2 O2 n2):GOES M fr O nx fr2 O2 n2:=
 ⟨fun η a w hm=>let⟨η1,h1⟩:=h.out η a w hm;k.out η1 a w h1⟩
theorem GOES.nil(t es:Nat)(h0:lkp t fr=some (.val (.slice none 0 0))):GOES M fr O nx ((t, .sl (.loc nx) 0 es 0 none)::fr) ((nx, .rows es [])::O) (nx+1):=by
 refine⟨fun η a w hm=>?_⟩;have hpre:η<+:η++ [none]:=List.prefix_append _ _;have hnew:(η++ [none])[nx]?=some none:=by rw[List.getElem?_append_right (by rw[hm.heap.len];omega),hm.heap.len];simp
 refine⟨η++ [none],hm.heap.push none (fun _ _=>rfl) (Nat.le_refl _) rfl rfl rfl (Nat.le_refl _) (.inl ⟨hnew,rfl⟩) (fun k f=>(feet.none (b:= .loc nx) hnew f).elim) (fun k f=>(feet.none (b:= .loc nx) hnew f).elim),hm.size,hm.nds,?_,Vi hpre hm.ro,fun u v hu=>?_⟩
 ·have hdf:=hm.defers.mono hpre;rw[Z8];split
  ·rename_i e;rw[e,h0,DfOK.no rfl]at hdf;rw[DfOK.no rfl];exact hdf
  ·exact hdf
 ·rw[Z8]at hu;split at hu
  ·rename_i e;subst e;injection hu with hu;subst hu
   have:=hm.frame u _ h0;simp only[Den]at this⊢;exact .inl ⟨hnew,this.1,trivial⟩
  ·exact Den.mono hpre (hm.frame u v hu)
theorem LOOP.goes{body:Code}{Q:Post}{n1:Nat}(h:GOES M fr O nx fr' O' n1)(k:LOOP M body fr' O' n1 Q):LOOP M body fr O nx Q:=
 ⟨fun η a w hm=>let⟨η1,h1⟩:=h.out η a w hm;k.out η1 a w h1⟩
theorem LOOP.nil{body:Code}{Q:Post}(t es:Nat)(h0:lkp t fr=some (.val (.slice none 0 0)))(k:LOOP M body ((t, .sl (.loc nx) 0 es 0 none)::fr) ((nx, .rows es [])::O) (nx+1) Q):LOOP M body fr O nx Q:=LOOP.goes (GOES.nil t es h0) k
theorem FIN.rows{k:Nat}{r:SV}{Q:SV->Hps->Nat->Prop}(hk:M.η0.length=k)(i es len:Nat){rs:List (List SV)}(hr:r= .sl (.loc i) 0 es len none)(hO:lkp i O=some (.rows es rs))(hi:Nat.blt i nx=true)(hp:Zo rs=true)
 (hQ:Q (.sl (.loc k) 0 es len none) [(k, .rows es rs)] (k+1)):FIN M O nx r Q:=by
 have hi:i<nx:=by simpa[Nat.blt_eq]using hi
 have hf:Yw k [i] k=i:=by simp[Yw]
 refine FIN.keep hk [i] (rc:= .sl (.loc k) 0 es len none) (Oc:=[(k, .rows es rs)]) (fun j hj=>by simp at hj;omega) (by rw[hr];simp only[ren,renB,hf]) (by simp[ZR,Wn,Nat.blt_eq]) ?_ ?_ hQ
 ·intro p hp';simp only[List.mem_singleton]at hp';subst hp';refine⟨by simp,?_,by simp only[Zs,Zd _ hp]⟩;simp only[renH,hf,ZF _ hp,hO]
 ·intro j hj j' hj' _;simp[Zc]at hj hj';omega
def ZcS(k:Nat)(l:List UInt8):SV->Hps->Nat->Prop:=fun r O nx=>r= .sl (.loc k) 0 1 l.length none/\O=[(k, .rows 1 (l.map bytesRow))]/\nx=k+1
theorem Uf(l:List UInt8):Zo (l.map bytesRow)=true:=ZV _ (fun _=>rfl) l
theorem Z82{L:List Nat}{nx k:Nat}(hL:L.length=k):Zj L nx k=nx:=by simp[Zj,hL]
theorem CALL.bytes{f:FuncId}{args:List SV}{K:SV->Hps->Nat->Prop}{l:List UInt8}(sp:Does M.P M.C.T f 0 args [] [] (ZcS 0 l))(hp:YC args=true)
 (hK:K (.sl (.loc nx) 0 1 l.length none) ((nx, .rows 1 (l.map bytesRow))::O) (nx+1)):CALL M f args O nx K:=by
 refine CALL.of [] sp rfl (fun i hi=>by cases hi) (Yd _ hp).symm (ZM 0 hp) (fun p hp=>by cases hp) (fun j hj=>by cases hj) (fun p hp=>by cases hp) ?_;rintro r' O' nx' ⟨rfl,rfl,rfl⟩;simp only[ren,renB,renO,renH,ZF _ (Uf l),Z82 (L:=[]) (nx:=nx) (k:=0) rfl,Zc,List.map_nil,Vn,List.cons_append,List.nil_append];exact hK
theorem Z5L(xs:List UInt8)(r n:Nat):((xs.map bytesRow).drop r).take n=((xs.drop r).take n).map bytesRow:=by rw[List.map_take,List.map_drop]
theorem Zhq(xs:List UInt8):(xs.map bytesRow).map Z1n=xs:=Wk xs
theorem ZcT{xs:List UInt8}{r n:Nat}(h:r+n<=xs.length):(((xs.map bytesRow).drop r).take n).length=n/\∃l:List UInt8,((xs.map bytesRow).drop r).take n=l.map bytesRow:=
 ⟨by simp;omega,_,Z5L xs r n⟩
theorem Zf4(xs:List UInt8):(((xs.map bytesRow).drop 0).take xs.length).map Z1n=xs:=by rw[Z5L,Zhq];simp
theorem CALL.look1{f:FuncId}{args argsc:List SV}{K:SV->Hps->Nat->Prop}{es:Nat}{rs:List (List SV)}{r:SV}(i:Nat)(sp:Does M.P M.C.T f 1 argsc [] [(0, .rows es rs)] (ValK 1 r))
 (ha:args=renL (Zj [i] nx) argsc) (hi:Nat.blt i nx=true) (hb:ZS 1 argsc=true) (hO:XF M.C O (.loc i)=some (.rows es rs)) (hp:Zo rs=true) (hr:plain r=true) (hK:K r O nx):CALL M f args O nx K:=by
 refine CALL.looks [i] sp rfl (by simp[hi]) ha hb ⟨⟨rfl,?_,J1 _ hp⟩,trivial⟩ ?_
 ·rw[show renH (Zj [i] nx) (.rows es rs)= .rows es rs from Zb _ hp];exact hO
 ·rw[J0 _ hr];exact hK
def Z92:List Nat->Fr->(Fr->Prop)->Prop
 | [],fr,K=>match lkp DS fr with
   |some v=>K [(DS,v)]
   |none=>K []
 |t::ts,fr,K=>match lkp t fr with
  |some v=>Z92 ts fr fun r=>K ((t,v)::r)
  |none=>STOP "kept"
def appK:Fr->Fr->(Fr->Prop)->Prop
 | [],r,K=>K r
 |(t,v)::l,r,K=>appK l r fun r=>K ((t,v)::r)
def appO:Hps->(Hps->Prop)->Prop
 | [],K=>K []
 |(t,v)::l,K=>appO l fun r=>K ((t,v)::r)
theorem Z2d:∀{ts:List Nat} {fr:Fr} {K:Fr->Prop},Z92 ts fr K->∃r,K r
 | [],fr,K,h=>by
   simp only[Z92]at h;split at h
   ·exact⟨_,h⟩
   ·exact⟨_,h⟩
 |t::ts,fr,K,h=>by
  simp only[Z92]at h;split at h
  ·obtain⟨r,hr⟩:=Z2d h;exact⟨_,hr⟩
  ·exact h.out.elim
theorem Z4o:∀{l r:Fr} {K:Fr->Prop},appK l r K<->K (l++r)
 | [],r,K=>Iff.rfl
 |(t,v)::l,r,K=>by simp only[appK,List.cons_append,Z4o]
theorem Z83:∀{l:Hps} {K:Hps->Prop},appO l K<->K l
 | [],K=>Iff.rfl
 |(t,v)::l,K=>by simp only[appO,Z83]
theorem LOOP.go{body:Code}{Q:Post}(hT:TabOK M.P M.C.T)(ks:List Nat){X:Type}(P:X->Prop)(chg:X->Fr)(Ox:X->Hps)(n0:Nat)(μ:X->Nat)(x0:X)(hP:P x0)
 (h:Z92 ks fr fun fr0=>(appK (chg x0) fr0 fun fr'=>appO (Ox x0) fun O'=>GOES M fr O nx fr' O' n0)/\
   ∀x,P x->appK (chg x) fr0 fun fr1=>appO (Ox x) fun O1=>run M body fr1 O1 n0 fun e fr O nx=>match e with
    | .normal=> ∃x',P x'/\μ x'<μ x/\appK (chg x') fr0 fun fr'=>appO (Ox x') fun O'=>GOES M fr O nx fr' O' n0
    |e=>Q e fr O nx):LOOP M body fr O nx Q:=by
 obtain⟨fr0,h1,h2⟩:=Z2d h;simp only[Z4o,Z83]at h1 h2;exact LOOP.inv hT P (fun x=>(chg x++fr0,Ox x,n0)) μ x0 hP h1 h2
theorem GETG.at{rs:List (List SV)}{i:Nat}{g:Prop}{K:List SV->Prop}{row:List SV}(h:rs[i]?=some row)(k:K row):GETG g rs i K:=⟨row,fun _=>h,k⟩
theorem Z5{a:Int}(h1: -9223372036854775808<=a)(h2:a<=9223372036854775807):IntKind.i64.wrap a=a:=IntWalk.i64_in _ ⟨by omega,by omega⟩
theorem Z9{a:Int}(h1: -2147483648<=a)(h2:a<=2147483647):IntKind.i32.wrap a=a:=IntWalk.i32_in _ ⟨by omega,by omega⟩
theorem hsB:(∀(p:Prop) [Decidable p],(decide p=true)=p)/\(∀(p:Prop) [Decidable p],(decide p=false)<->¬p)/\(∀b:Bool,(¬b=true)=(b=false))/\(∀b:Bool,(¬b=false)=(b=true))/\(∀a b:Bool,((!a)=b)<->(a=!b))/\
 ((!true)=false)/\((!false)=true)/\(∀a b:Bool,((a&&b)=true)=(a=true/\b=true))/\(∀a b:Bool,((a||b)=true)=(a=true\/b=true))/\(∀a b:Bool,((a&&b)=false)=(a=true->b=false))/\(∀a b:Bool,((a||b)=false)=(a=false/\b=false))/\
 (∀{α:Type} [BEq α] [LawfulBEq α] (a b:α),((a !=b)=true)<->a≠b)/\(∀{α:Type} [BEq α] [LawfulBEq α] (a b:α),((a !=b)=false)<->a=b)/\(∀{α:Type} [BEq α] [LawfulBEq α] (a b:α),((a==b)=true)<->a=b)/\(∀{α:Type} [BEq α] [LawfulBEq α] (a b:α),((a==b)=false)<->a≠b)/\
 (∀{α:Type} (a b:α),(a≠b)=¬(a=b))/\(∀c:Bool,(bif c then c else false)=c)/\(∀a b:Bool,(bif a then b else false)=(a&&b))/\(∀a b:Bool,(bif a then true else b)=(a||b))/\(∀a b:Bool,(bif a then b else true)=(!a||b))/\(∀a b:Bool,(bif a then false else b)=(!a&&b)):=
 ⟨fun p _=>by simp,fun p _=>by simp,fun b=>by simp,fun b=>by simp,fun a b=>by cases a<;>cases b<;>simp,rfl,rfl,fun a b=>by simp,fun a b=>by simp,fun a b=>by simp,fun a b=>by simp,fun a b=>by simp,fun a b=>by simp,fun a b=>by simp,fun a b=>by simp,
  fun a b=>rfl,fun c=>by cases c<;>rfl,fun a b=>by cases a<;>rfl,fun a b=>by cases a<;>rfl,fun a b=>by cases a<;>rfl,fun a b=>by cases a<;>rfl⟩
theorem hsC:(∀a b:Int,(¬a<b)<->b<=a)/\(∀a b:Int,(¬a<=b)<->b<a)/\(decide True=true)/\(decide False=false)/\(∀{α:Type} (a b:α),(bif true then a else b)=a)/\(∀{α:Type} (a b:α),(bif false then a else b)=b)/\
 (∀b:Bool,(true||b)=true)/\(∀b:Bool,(b||true)=true)/\(∀b:Bool,(false||b)=b)/\(∀b:Bool,(b||false)=b)/\(∀b:Bool,(true&&b)=b)/\(∀b:Bool,(b&&true)=b)/\(∀b:Bool,(false&&b)=false)/\(∀b:Bool,(b&&false)=false)/\
 (∀p:Prop,(True\/p)=True)/\(∀p:Prop,(p\/True)=True)/\(∀p:Prop,(False\/p)=p)/\(∀p:Prop,(p\/False)=p)/\(∀p:Prop,(True/\p)=p)/\(∀p:Prop,(p/\True)=p)/\(∀p:Prop,(False/\p)=False)/\(∀p:Prop,(p/\False)=False)/\
 ((¬True)=False)/\((¬False)=True)/\((false=true)=False)/\((true=false)=False)/\(∀p q:Prop,(¬(p\/q))<->(¬p/\¬q))/\(∀p q:Prop,(¬(p/\q))<->(p->¬q))/\(∀p:Prop,(¬ ¬p)<->p):=
 ⟨fun a b=>Int.not_lt,fun a b=>Int.not_le,by simp,by simp,fun a b=>rfl,fun a b=>rfl,fun b=>by simp,fun b=>by simp,fun b=>by simp,fun b=>by simp,fun b=>by simp,fun b=>by simp,fun b=>by simp,fun b=>by simp,fun p=>by simp,fun p=>by simp,fun p=>by simp,fun p=>by simp,fun p=>by simp,fun p=>by simp,fun p=>by simp,fun p=>by simp,
  by simp,by simp,by simp,by simp,fun p q=>by simp,fun p q=>by simp,fun p=>Classical.not_not⟩
theorem lnB:(∀{α:Type} (a:α) (l:List α),(a::l).length=l.length+1)/\(∀{α:Type},([]:List α).length=0)/\(∀{α:Type} (a b:List α),(a++b).length=a.length+b.length)/\(∀p:Prop,(True/\p)=p)/\(∀p:Prop,(p/\True)=p):=
 ⟨fun a l=>rfl,rfl,fun a b=>List.length_append,fun p=>by simp,fun p=>by simp⟩
theorem Yg{xs:List (List SV)}{m n k b:Nat}(B:Nat)(hb:Nat.ble b B=true)(hB:Nat.ble 1 B=true)(h1:xs.length=m)(h2:n<=k)(h3:min (2*(n+m)) ((n+m)+(n+m)/4+192)*B<=281474976710656):xs.length=m/\n<=k/\n+m<=9223372036854775807/\min (2*(n+m)) ((n+m)+(n+m)/4+192)*b<=281474976710656:=by
 have hb:=Nat.le_of_ble_eq_true hb;have hB:=Nat.le_of_ble_eq_true hB;refine⟨h1,h2,?_,Nat.le_trans (Nat.mul_le_mul_left _ hb) h3⟩;have:n+m<=min (2*(n+m)) ((n+m)+(n+m)/4+192)*B:=Nat.le_trans (by omega) (Nat.le_mul_of_pos_right _ hB);omega
theorem Z13{O:Hps}{b:Blk}{r len:Nat}{lim:Option Nat}{n:Nat}(h:n<=len):(n:Int)<=(reach O b r len lim:Nat):=by
 have:len<=reach O b r len lim:=by
  unfold reach;split
  ·exact Nat.le_refl _
  ·split
   ·exact Nat.le_max_left _ _
   ·exact Nat.le_refl _
 omega
end Go.Sx
namespace Go.Our
open Go.Sx
abbrev Sm(s:List UInt8):Prop:=s.length<=1152921504606846976
abbrev bn(c:UInt8):Int:=(c.toNat:Int)
theorem Zhr(c:UInt8):0<=bn c/\bn c<256:=by
 have:=c.toNat_lt;unfold bn;omega
theorem Y0(s:List UInt8)(i:Int):0<=Zl s i/\Zl s i<256:=Zhr _
def XA(r:Int):Prop:=0<=r/\r<=1114111/\(r<55296\/57343<r)
instance (r:Int):Decidable (XA r):=by unfold XA;infer_instance
def Z4p(r:Int):Bool:=decide (XA r)
theorem VT{r:Int}:Z4p r=true<->0<=r/\r<=1114111/\(r<55296\/57343<r):=decide_eq_true_iff
theorem Wv{r:Int}:Z4p r=false<->¬(0<=r/\r<=1114111/\(r<55296\/57343<r)):=decide_eq_false_iff_not
def Z2U(c:Int):Int×Int:=
 if c<128 then(1,c)else if c<192 then(0,0)else if c<224 then(2,c%32)else if c<240 then(3,c%16)else if c<248 then(4,c%8)else(0,0)
def Z5M(n:Int):Int:=if n=2 then 128 else if n=3 then 2048 else if n=4 then 65536 else 0
theorem Zf5:Z5M 1=0:=rfl
theorem Zf6:Z5M 2=128:=rfl
theorem Zf7:Z5M 3=2048:=rfl
theorem Zf8:Z5M 4=65536:=rfl
def r2(a b:Int):Int:=a%32*64+b%64
def r3(a b c:Int):Int:=(a%16*64+b%64)*64+c%64
def r4(a b c d:Int):Int:=((a%8*64+b%64)*64+c%64)*64+d%64
def decB(m a b c d:Int):Int×Int:=
 if a<128 then(a,1)
 else if a<192 then(0,0)
 else if a<224 then
  if 2<=m/\(128<=b/\b<192)/\128<=r2 a b then(r2 a b,2)else(0,0)
 else if a<240 then
  if 3<=m/\(128<=b/\b<192)/\(128<=c/\c<192)/\2048<=r3 a b c/\(r3 a b c<55296\/57343<r3 a b c)then(r3 a b c,3)else(0,0)
 else if a<248 then
  if 4<=m/\(128<=b/\b<192)/\(128<=c/\c<192)/\(128<=d/\d<192)/\65536<=r4 a b c d/\r4 a b c d<=1114111 then(r4 a b c d,4)else(0,0)
 else(0,0)
def Zx(s:List UInt8)(i:Int):Int×Int:=if i<0\/(s.length:Int)<=i then(0,0)else decB (s.length-i) (Zl s i) (Zl s (i+1)) (Zl s (i+2)) (Zl s (i+3))
theorem Zgp(m a b c d:Int)(h:1<=m):(decB m a b c d).2=0\/1<=(decB m a b c d).2/\(decB m a b c d).2<=4/\(decB m a b c d).2<=m:=by
 unfold decB
 (repeat' split)<;>simp<;>omega
theorem Ug(s:List UInt8)(i:Int):(Zx s i).2=0\/1<=(Zx s i).2/\(Zx s i).2<=4/\(Zx s i).2<=s.length-i:=by
 unfold Zx;split
 ·simp
 ·exact Zgp _ _ _ _ _ (by omega)
def chk(s:List UInt8)(i:Nat):Int:=
 if h:i<s.length/\(Zx s i).2≠0 then chk s (i+(Zx s i).2.toNat)else if i<s.length then i else-1
termination_by s.length-i
decreasing_by have:=Ug s i;omega
theorem ZaE{s:List UInt8}{i:Nat}(h:s.length<=i):chk s i= -1:=by
 rw[chk,dif_neg (by omega),if_neg (by omega)]
theorem Z6T{s:List UInt8}{i:Nat}(h:i<s.length)(h0:(Zx s i).2=0):chk s i=i:=by
 rw[chk,dif_neg (by simp[h0]),if_pos h]
theorem Z4q{s:List UInt8}{i:Nat}(h:i<s.length)(h0:(Zx s i).2≠0):chk s i=chk s (i+(Zx s i).2.toNat):=by
 rw[chk,dif_pos ⟨h,h0⟩]
theorem Zgq(s:List UInt8)(i:Nat): -1<=chk s i:=by
 induction i using chk.induct s with
 |case1 i h ih=>rw[Z4q h.1 h.2];exact ih
 |case2 i h hlt=>
  have:(Zx s i).2=0:=by
   apply Classical.byContradiction;intro hh;exact h ⟨hlt,hh⟩
  rw[Z6T hlt this];omega
 |case3 i h hlt=>rw[ZaE (by omega)];omega
theorem Z6U(c:Int):(c<128/\Z2U c=(1,c))\/((128<=c/\c<192\/248<=c)/\Z2U c=(0,0))\/((192<=c/\c<224)/\Z2U c=(2,c%32))\/((224<=c/\c<240)/\Z2U c=(3,c%16))\/((240<=c/\c<248)/\Z2U c=(4,c%8)):=by
 unfold Z2U
 (repeat' split)<;>simp<;>omega
theorem Z2e{p:Int->Bool}(h:(List.range 256).all (fun n=>p (n:Int))=true){c:Int}(h0:0<=c/\c<256):p c=true:=by
 have:=List.all_eq_true.1 h c.toNat (List.mem_range.2 (by omega));rwa [show((c.toNat:Nat):Int)=c by omega]at this
theorem Zgr{c:Int}(h:0<=c/\c<256):iAnd .u8 c 31=c%32:=by
 have:=Z2e (p:=fun n=>iAnd .u8 n 31==n%32) (by decide+kernel) h;simpa using this
theorem Zgs{c:Int}(h:0<=c/\c<256):iAnd .u8 c 15=c%16:=by
 have:=Z2e (p:=fun n=>iAnd .u8 n 15==n%16) (by decide+kernel) h;simpa using this
theorem and7{c:Int}(h:0<=c/\c<256):iAnd .u8 c 7=c%8:=by
 have:=Z2e (p:=fun n=>iAnd .u8 n 7==n%8) (by decide+kernel) h;simpa using this
theorem Zhs{c:Int}(h:0<=c/\c<256):iAnd .u8 c 63=c%64:=by
 have:=Z2e (p:=fun n=>iAnd .u8 n 63==n%64) (by decide+kernel) h;simpa using this
theorem Zgt{c:Int}(h:0<=c/\c<256):iAnd .u8 c 192=c/64*64:=by
 have:=Z2e (p:=fun n=>iAnd .u8 n 192==n/64*64) (by decide+kernel) h;simpa using this
theorem Z5N(w n:Nat):(BitVec.ofInt w (n:Int)).toNat=n%2^w:=by
 rw[BitVec.toNat_ofInt];norm_cast
theorem Zgu{k:IntKind}{a b i:Nat}(hb:b<2^i)(h:a*2^i+b<2^k.bits):iOr k ((a*2^i:Nat):Int) (b:Int)=k.wrap ((a*2^i+b:Nat):Int):=by
 unfold iOr
 have h1:(BitVec.ofInt k.bits ((a*2^i:Nat):Int)|||BitVec.ofInt k.bits (b:Int)).toNat=a*2^i+b:=by
  rw[BitVec.toNat_or,Z5N,Z5N,Nat.mod_eq_of_lt (by omega),Nat.mod_eq_of_lt (by omega)];rw[<-Nat.shiftLeft_eq,Nat.shiftLeft_add_eq_or_of_lt hb]
 rw[h1]
theorem or6{x c:Int}(hx:0<=x/\x<16777216)(hc:0<=c/\c<256):iOr .i32 (iShl .i32 x 6) (IntKind.i32.wrap (iAnd .u8 c 63))=x*64+c%64:=by
 rw[Zhs hc,Z9 (by omega) (by omega)]
 have h1:iShl .i32 x 6=((x.toNat*2^6:Nat):Int):=by
  unfold iShl;rw[show(min (Int.toNat 6) (IntKind.i32.bits))=6 by decide,show x*2^6=x*64 by rfl,Z9 (by omega) (by omega)];omega
 have h2:c%64=(((c%64).toNat:Nat):Int):=by omega
 rw[h1,h2,Zgu (by omega) (by show _<2^32;omega),Z9 (by omega) (by omega)];omega
structure Tm where
 k:Int
 t:List UInt8
 y:List UInt8
 l:List UInt8
 deriving DecidableEq
structure Qd where
 s:Tm
 p:Tm
 o:Tm
 g:Tm
 deriving DecidableEq
abbrev TmSm(x:Tm):Prop:=Sm x.t/\Sm x.y/\Sm x.l
abbrev QdSm(q:Qd):Prop:=TmSm q.s/\TmSm q.p/\TmSm q.o/\TmSm q.g
def Tm.sv(x:Tm):SV:= .agg [.int .i64 x.k, .str x.t, .str x.y, .str x.l]
def Qd.sv(q:Qd):SV:= .agg [.int .i64 q.s.k, .str q.s.t, .str q.s.y, .str q.s.l, .int .i64 q.p.k, .str q.p.t, .str q.p.y, .str q.p.l, .int .i64 q.o.k, .str q.o.t, .str q.o.y, .str q.o.l, .int .i64 q.g.k, .str q.g.t, .str q.g.y, .str q.g.l]
def Y8:Tm:=⟨0,[],[],[]⟩
end Go.Our
namespace Go.Sx
open Go
def subK(σ:Nat->Nat)(fr:Fr):Fr->Prop
 | []=>True
 |(t,v)::r=>match lkp t fr with
  |some u=>u=ren σ v/\subK σ fr r
  |none=>False
def ZaF(σ:Nat->Nat)(O:Hps):Hps->Prop
 | []=>True
 |(i,h)::r=>match lkp (σ i) O with
  |some g=>g=renH σ h/\ZaF σ O r
  |none=>False
theorem ZaG{σ:Nat->Nat}{m:Nat}{fr:Fr}:∀{fr':Fr},subK σ fr fr'->Vr m fr'=true->SubFr σ m fr fr'
 | [],_,_=>trivial
 |(t,v)::r,h,b=>by
  simp only[subK]at h;simp only[Vr,Bool.and_eq_true]at b;split at h
  ·rename_i u hu;obtain⟨rfl,h⟩:=h;exact⟨⟨hu,b.1⟩,ZaG h b.2⟩
  ·exact h.elim
theorem ZaH{σ:Nat->Nat}{m:Nat}{O:Hps}:∀{O':Hps},ZaF σ O O'->Zw m O'=true->SubO σ m O O'
 | [],_,_=>trivial
 |(t,v)::r,h,b=>by
  simp only[ZaF]at h;simp only[Zw,Bool.and_eq_true]at b;split at h
  ·rename_i u hu;obtain⟨rfl,h⟩:=h;exact⟨⟨b.1,hu,b.2.1⟩,ZaH h b.2.2⟩
  ·exact h.elim
theorem GOES.keeping{M:Mx}{fr:Fr}{O:Hps}{nx k:Nat}{fr':Fr}{O':Hps}(hk:M.η0.length=k)(τ:List Nat)(hτ:τ.all (fun i=>Nat.blt i nx)=true)
 (hn:(Zc O').all (fun j=>(Zc O').all fun j'=>!(Nat.beq (Yw k τ j) (Yw k τ j'))||Nat.beq j j')=true)
 (hbf:Vr (k+τ.length) fr'=true) (hbo:Zw (k+τ.length) O'=true) (hf:subK (Yw k τ) fr fr') (hO:ZaF (Yw k τ) O O') (hd:Z0t fr fr'=true:=by rfl) (hro:Z0u M.C.ro (Yw k τ) (k+τ.length)=true:=by rfl):GOES M fr O nx fr' O' (k+τ.length):=
 GOES.keep hk τ hτ (ZaG hf hbf) (ZaH hO hbo) hn hd hro
theorem X0{b b':Blk}{r es n n':Nat}{lim:Option Nat}(hb:b=b')(hn:n=n'):SV.sl b r es n lim=SV.sl b' r es n' lim:=by rw[hb,hn]
theorem YI{es:Nat}{rs rs':List (List SV)}{σ:Nat->Nat}(hp:Zo rs'=true)(h:rs=rs'):Hp.rows es rs=renH σ (.rows es rs'):=by rw[Zb σ (h:= .rows es rs') hp,h]
theorem Does.mono{P:Program}{T:Tab}{f:FuncId}{k:Nat}{args:List SV}{O S:Hps}{Q Q':SV->Hps->Nat->Prop}(h:Does P T f k args O S Q)(hq:∀r O nx,Q r O nx->Q' r O nx):Does P T f k args O S Q':=
 ⟨fun M vs h1 h2 h3 h4 h5 h6=>(h.out M vs h1 h2 h3 h4 h5 h6).mono fun v w' ⟨r,O',nx',η',a,b⟩=>⟨r,O',nx',η',hq _ _ _ a,b⟩⟩
def NewS(es:Nat)(rs:List (List SV)):SV->Hps->Nat->Prop:=fun r O nx=>r= .sl (.loc 0) 0 es rs.length none/\O=[(0, .rows es rs)]/\nx=1
theorem CALL.newS{M:Mx}{O:Hps}{nx:Nat}{f:FuncId}{args:List SV}{K:SV->Hps->Nat->Prop}{es:Nat}{rs:List (List SV)}(sp:Does M.P M.C.T f 0 args [] [] (NewS es rs))(hp:YC args=true)(hrs:Zo rs=true)
 (hK:K (.sl (.loc nx) 0 es rs.length none) ((nx, .rows es rs)::O) (nx+1)):CALL M f args O nx K:=by
 refine CALL.of [] sp rfl (fun i hi=>by cases hi) (Yd _ hp).symm (ZM 0 hp) (fun p hp=>by cases hp) (fun j hj=>by cases hj) (fun p hp=>by cases hp) ?_;rintro r' O' nx' ⟨rfl,rfl,rfl⟩;simp only[ren,renB,renO,renH,ZF _ hrs,Z82 (L:=[]) (nx:=nx) (k:=0) rfl,Zc,List.map_nil,Vn,List.cons_append,List.nil_append];exact hK
end Go.Sx
namespace Go.Our
open Go.Sx
def encI(r:Int):List Int:=
 if r<128 then [r]else if r<2048 then [192+r/64,128+r%64]else if r<65536 then [224+r/4096,128+r/64%64,128+r%64]
 else [240+r/262144,128+r/4096%64,128+r/64%64,128+r%64]
def Z8g(x:Int):UInt8:=UInt8.ofNat x.toNat
def encM(r:Int):List UInt8:=(encI r).map Z8g
theorem ZgD{a:Int}(h1:0<=a)(h2:a<=255):IntKind.u8.wrap a=a:=IntWalk.u8_in _ ⟨h1,h2⟩
theorem Zb2{x:Int}(h:0<=x/\x<256):((Z8g x).toNat:Int)=x:=by
 unfold Z8g;rw[UInt8.toNat_ofNat_of_lt' (by show x.toNat<256;omega)];omega
theorem Zfe{r:Int}(h:0<=r/\r<=1114111):∀x∈encI r,0<=x/\x<256:=by
 unfold encI
 (repeat' split)<;>simp<;>omega
section
variable {s:List UInt8}{i:Int}
end
abbrev deco(s:List UInt8)(i:Nat):Nat×Nat:=Utf8.decode ⟨s.toArray⟩ i
theorem Zd4(s:List UInt8)(j:Nat):((ByteArray.mk s.toArray).get! j).toNat=(s.getD j 0).toNat:=by
 unfold ByteArray.get!;simp[List.getD,Array.getElem!_eq_getD]
 rfl
def decN(m b0 b1 b2 b3:Nat):Nat×Nat:=
 if b0<128 then(b0,1)
 else if b0/32=6/\1<m/\b1/64=2 then if 128<=b0%32*64+b1%64 then(b0%32*64+b1%64,2)else(65533,1)
 else if b0/16=14/\(1<m/\b1/64=2)/\(2<m/\b2/64=2)then
  if 2048<=b0%16*4096+b1%64*64+b2%64/\(b0%16*4096+b1%64*64+b2%64<55296\/57344<=b0%16*4096+b1%64*64+b2%64)then(b0%16*4096+b1%64*64+b2%64,3)else(65533,1)
 else if b0/8=30/\(1<m/\b1/64=2)/\(2<m/\b2/64=2)/\(3<m/\b3/64=2)then
  if 65536<=b0%8*262144+b1%64*4096+b2%64*64+b3%64/\b0%8*262144+b1%64*4096+b2%64*64+b3%64<=1114111 then(b0%8*262144+b1%64*4096+b2%64*64+b3%64,4)else(65533,1)
 else(65533,1)
theorem Vb(s:List UInt8)(i:Nat):deco s i=decN (s.length-i) (s.getD i 0).toNat (s.getD (i+1) 0).toNat (s.getD (i+2) 0).toNat (s.getD (i+3) 0).toNat:=by
 unfold deco Utf8.decode decN;simp only[Zd4,Nat.add_zero];have hsz:(ByteArray.mk s.toArray).size=s.length:=by simp[ByteArray.size]
 rw[hsz];generalize(s.getD i 0).toNat=b0;generalize(s.getD (i+1) 0).toNat=b1;generalize(s.getD (i+2) 0).toNat=b2;generalize(s.getD (i+3) 0).toNat=b3;have e:∀k,(i+k<s.length)=(k<s.length-i):=fun k=>by simp;omega
 simp only[Bool.and_eq_true,beq_iff_eq,decide_eq_true_eq,e,Utf8.valid,Utf8.runeError,Bool.or_eq_true,ge_iff_le];by_cases c1:b0<128
 ·simp[c1]
 by_cases c2:b0/32=6/\1<s.length-i/\b1/64=2
 ·simp[c1,c2]
 by_cases c3:b0/16=14/\(1<s.length-i/\b1/64=2)/\(2<s.length-i/\b2/64=2)
 ·have c3':(b0/16=14/\(1<s.length-i/\b1/64=2))/\(2<s.length-i/\b2/64=2):=⟨⟨c3.1,c3.2.1⟩,c3.2.2⟩;rw[if_neg c1,if_neg c2,if_pos c3',if_neg c1,if_neg c2,if_pos c3];congr 1;simp;omega
 by_cases c4:b0/8=30/\(1<s.length-i/\b1/64=2)/\(2<s.length-i/\b2/64=2)/\(3<s.length-i/\b3/64=2)
 ·have c4':((b0/8=30/\(1<s.length-i/\b1/64=2))/\(2<s.length-i/\b2/64=2))/\(3<s.length-i/\b3/64=2):=⟨⟨⟨c4.1,c4.2.1⟩,c4.2.2.1⟩,c4.2.2.2⟩;have c3':¬((b0/16=14/\(1<s.length-i/\b1/64=2))/\(2<s.length-i/\b2/64=2)):=fun h=>c3 ⟨h.1.1,h.1.2,h.2⟩;rw[if_neg c1,if_neg c2,if_neg c3',if_pos c4',if_neg c1,if_neg c2,if_neg c3,if_pos c4];congr 1;simp;omega
 ·have c4':¬(((b0/8=30/\(1<s.length-i/\b1/64=2))/\(2<s.length-i/\b2/64=2))/\(3<s.length-i/\b3/64=2)):=fun h=>c4 ⟨h.1.1.1,h.1.1.2,h.1.2,h.2⟩;have c3':¬((b0/16=14/\(1<s.length-i/\b1/64=2))/\(2<s.length-i/\b2/64=2)):=fun h=>c3 ⟨h.1.1,h.1.2,h.2⟩;rw[if_neg c1,if_neg c2,if_neg c3',if_neg c4',if_neg c1,if_neg c2,if_neg c3,if_neg c4]
theorem Z1b(s:List UInt8)(i:Nat):1<=(deco s i).2:=by
 rw[Vb];unfold decN
 (repeat' split)<;>simp
theorem Z2l(s:List UInt8)(i:Nat)(h:i<s.length):i+(deco s i).2<=s.length:=by
 rw[Vb];unfold decN
 (repeat' split)<;>simp<;>omega
theorem Z7a(s:List UInt8)(i:Nat):XA ((deco s i).1:Int):=by
 have h:=(s.getD i 0).toNat_lt;rw[Vb];unfold decN XA;generalize(s.getD i 0).toNat=b0 at*;generalize(s.getD (i+1) 0).toNat=b1 at*;generalize(s.getD (i+2) 0).toNat=b2 at*;generalize(s.getD (i+3) 0).toNat=b3 at*
 (repeat' split)<;>simp<;>omega
theorem Un{s:List UInt8}{i:Nat}(h:Zl s i<128):deco s i=((Zl s i).toNat,1):=by
 have e:Zl s i=((s.getD i 0).toNat:Int):=rfl;rw[Vb];unfold decN;rw[e]at h⊢;clear e;generalize(s.getD i 0).toNat=b0 at*;generalize(s.getD (i+1) 0).toNat=b1 at*;generalize(s.getD (i+2) 0).toNat=b2 at*;generalize(s.getD (i+3) 0).toNat=b3 at*;rw[if_pos (by omega)];simp
theorem Z2m{s:List UInt8}{i:Nat}(h:128<=Zl s i):128<=(deco s i).1:=by
 have e:Zl s i=((s.getD i 0).toNat:Int):=rfl;have l0:=(s.getD i 0).toNat_lt;rw[Vb];unfold decN;rw[e]at h;clear e;generalize(s.getD i 0).toNat=b0 at*;generalize(s.getD (i+1) 0).toNat=b1 at*;generalize(s.getD (i+2) 0).toNat=b2 at*;generalize(s.getD (i+3) 0).toNat=b3 at*
 (repeat' split)<;>simp<;>omega
theorem Zb3{s:List UInt8}{i:Nat}(hi:i<s.length)(h:(Zx s i).2≠0):((deco s i).1:Int)=(Zx s i).1/\((deco s i).2:Int)=(Zx s i).2:=by
 have l0:=(s.getD i 0).toNat_lt;have l1:=(s.getD (i+1) 0).toNat_lt;have l2:=(s.getD (i+2) 0).toNat_lt;have l3:=(s.getD (i+3) 0).toNat_lt;have e0:Zl s i=((s.getD i 0).toNat:Int):=rfl;have e1:Zl s ((i:Int)+1)=((s.getD (i+1) 0).toNat:Int):=rfl;have e2:Zl s ((i:Int)+2)=((s.getD (i+2) 0).toNat:Int):=rfl;have e3:Zl s ((i:Int)+3)=((s.getD (i+3) 0).toNat:Int):=rfl;rw[Vb];unfold Zx decB r2 r3 r4 at h⊢;rw[if_neg (show ¬((i:Int)<0\/(s.length:Int)<=i)by omega)]at h⊢;simp only[e0,e1,e2,e3]at h⊢;clear e0 e1 e2 e3;unfold decN;generalize(s.getD i 0).toNat=b0 at*;generalize(s.getD (i+1) 0).toNat=b1 at*;generalize(s.getD (i+2) 0).toNat=b2 at*;generalize(s.getD (i+3) 0).toNat=b3 at*;rcases(by omega:(b0:Int)<128\/(128<=(b0:Int)/\(b0:Int)<192)\/(192<=(b0:Int)/\(b0:Int)<224)\/(224<=(b0:Int)/\(b0:Int)<240)\/(240<=(b0:Int)/\(b0:Int)<248)\/248<=(b0:Int))with ha|ha|ha|ha|ha|ha
 ·simp(disch:=omega) only[↓if_pos,↓if_neg];simp
 ·simp(disch:=omega) only[↓if_pos,↓if_neg]at h;simp at h
 ·simp(disch:=omega) only[↓if_neg,↓if_pos]at h⊢;split at h
  ·rename_i hc;simp(disch:=omega) only[↓if_neg,↓if_pos];simp<;>omega
  ·simp at h
 ·simp(disch:=omega) only[↓if_neg,↓if_pos]at h⊢;split at h
  ·rename_i hc;simp(disch:=omega) only[↓if_neg,↓if_pos];simp<;>omega
  ·simp at h
 ·simp(disch:=omega) only[↓if_neg,↓if_pos]at h⊢;split at h
  ·rename_i hc;simp(disch:=omega) only[↓if_neg,↓if_pos];simp<;>omega
  ·simp at h
 ·simp(disch:=omega) only[↓if_pos,↓if_neg]at h;simp at h
theorem Zb4{r:Int}(h:XA r):(Utf8.encode r).data.toList=encM r:=by
 unfold XA at h;have hv:Utf8.valid r=true:=by simp[Utf8.valid];omega
 obtain⟨n,rfl⟩:∃n:Nat,r=n:=⟨r.toNat,by omega⟩;unfold Utf8.encode encM encI Z8g;simp only[hv,if_true,Int.toNat_natCast];rcases(by omega:n<128\/(128<=n/\n<2048)\/(2048<=n/\n<65536)\/65536<=n)with c|c|c|c
 all_goals simp(disch:=omega) only[↓if_pos,↓if_neg,List.map_cons,List.map_nil]
 all_goals
  simp only[List.cons.injEq,and_true]
  (repeat'(first|rfl|refine⟨?_,?_⟩))<;>congr 1<;>omega
theorem Zd5{r:Int}(h:128<=r):2<=(encM r).length/\(encM r).length<=4:=by
 unfold encM encI
 (repeat' split)<;>simp<;>omega
theorem Zb5{r:Int}(hs:XA r)(h:128<=r):∀c∈encM r,128<=bn c:=by
 have hl:=Zfe ⟨hs.1,hs.2.1⟩;intro c hc;unfold encM at hc;obtain⟨x,hx,rfl⟩:=List.mem_map.1 hc;have:=hl x hx;unfold bn;rw[Zb2 this];unfold XA at hs;unfold encI at hx
 (repeat'(split at hx))<;>simp at hx<;>omega
def Barred(c:Int):Prop:=c<=32\/c=60\/c=62\/c=34\/c=123\/c=125\/c=124\/c=94\/c=96\/c=92
instance (c:Int):Decidable (Barred c):=by unfold Barred;infer_instance
def W0(c:Int):Bool:=decide (Barred c)
theorem Z62{c:Int}:W0 c=true<->Barred c:=decide_eq_true_iff
theorem Z4A{c:Int}:W0 c=false<->¬Barred c:=decide_eq_false_iff_not
def bars:List UInt8:=[60,62,34,123,125,124,94,96,92]
def idxF(p:Int->Bool)(s:List UInt8)(i:Nat):Int:=
 if h:i<s.length then if p ((deco s i).1:Int)then i else idxF p s (i+(deco s i).2)else-1
termination_by s.length-i
decreasing_by have:=Z1b s i;omega
theorem Z8h{p:Int->Bool}{s:List UInt8}{i:Nat}(h:s.length<=i):idxF p s i= -1:=by rw[idxF,dif_neg (by omega)]
theorem Zb6{p:Int->Bool}{s:List UInt8}{i:Nat}(h:i<s.length)(hp:p ((deco s i).1:Int)=true):idxF p s i=i:=by rw[idxF,dif_pos h,if_pos hp]
theorem Z2n{p:Int->Bool}{s:List UInt8}{i:Nat}(h:i<s.length)(hp:p ((deco s i).1:Int)=false):idxF p s i=idxF p s (i+(deco s i).2):=by
 conv=>lhs;rw[idxF]
 rw[dif_pos h,if_neg (by simp[hp])]
def anyB(p:Int->Bool)(s:List UInt8)(i:Nat):Bool:=
 if h:i<s.length then p (Zl s i)||anyB p s (i+1)else false
termination_by s.length-i
theorem Z8i{p:Int->Bool}{s:List UInt8}{i:Nat}(h:s.length<=i):anyB p s i=false:=by rw[anyB,dif_neg (by omega)]
theorem Z7b{p:Int->Bool}{s:List UInt8}{i:Nat}(h:i<s.length):anyB p s i=(p (Zl s i)||anyB p s (i+1)):=by
 conv=>lhs;rw[anyB]
 rw[dif_pos h]
theorem Zb7{p:Int->Bool}{s:List UInt8}{i n:Nat}(h:i+n<=s.length)(hp:∀k:Nat,k<n->p (Zl s (i+k:Nat))=false):anyB p s i=anyB p s (i+n):=by
 induction n with
 |zero=>rfl
 |succ n ih=>
  rw[ih (by omega) (fun k hk=>hp k (by omega)),Z7b (by omega),hp n (by omega),Bool.false_or];rfl
theorem Z7c{s:List UInt8}{i:Nat}(hi:i<s.length)(h:(Zx s i).2≠0)(h1:128<=Zl s i):∀k:Nat,k< (Zx s i).2.toNat->128<=Zl s (i+k:Nat):=by
 have e0:=Y0 s i;have e1:=Y0 s (i+1);have e2:=Y0 s (i+2);have e3:=Y0 s (i+3);unfold Zx decB at h⊢;rw[if_neg (show ¬((i:Int)<0\/(s.length:Int)<=i)by omega)]at h⊢;intro k hk
 have hb:(k=0/\Zl s (i+k:Nat)=Zl s i)\/(k=1/\Zl s (i+k:Nat)=Zl s (i+1))\/(k=2/\Zl s (i+k:Nat)=Zl s (i+2))\/(k=3/\Zl s (i+k:Nat)=Zl s (i+3))\/4<=k:=by
  rcases(by omega:k=0\/k=1\/k=2\/k=3\/4<=k)with rfl|rfl|rfl|rfl|h
  ·exact .inl ⟨rfl,rfl⟩
  ·exact .inr (.inl ⟨rfl,rfl⟩)
  ·exact .inr (.inr (.inl ⟨rfl,rfl⟩))
  ·exact .inr (.inr (.inr (.inl ⟨rfl,rfl⟩)))
  ·exact .inr (.inr (.inr (.inr h)))
 generalize Zl s (i+k:Nat)=x at*;generalize Zl s i=a at*;generalize Zl s (i+1)=b at*;generalize Zl s (i+2)=c at*;generalize Zl s (i+3)=d at*;rw[if_neg (show ¬a<128 by omega)]at h hk
 (repeat'(split at hk))<;>simp at hk<;>omega
theorem Z63(p:Int->Bool)(hp:∀c,128<=c->p c=false)(s:List UInt8)(i:Nat):chk s i= -1->(0<=idxF p s i<->anyB p s i=true):=by
 induction i using chk.induct s with
 |case1 i h ih=>
  intro hc;rw[Z4q h.1 h.2]at hc;have hn:=Ug s i;have hd:=Zb3 h.1 h.2;have e0:=Y0 s i;by_cases ha:Zl s i<128
  ·have hd':=Un ha;have h1:(Zx s i).2=1:=by rw[hd']at hd;simp at hd;omega
   rw[Z7b h.1];by_cases hb:p (Zl s i)=true
   ·rw[Zb6 h.1 (by rw[hd'];simp only;rw[show((Zl s i).toNat:Int)=Zl s i by omega];exact hb)];simp[hb]
   ·have hb:p (Zl s i)=false:=by simpa using hb
    rw[Z2n h.1 (by rw[hd'];simp only;rw[show((Zl s i).toNat:Int)=Zl s i by omega];exact hb),hb,Bool.false_or];have:=ih hc;rw[h1]at this;rw[hd'];exact this
  ·have ha:128<=Zl s i:=by omega
   rw[Z2n h.1 (hp _ (by have:=Z2m ha;omega))];rw[Zb7 (n:=(Zx s i).2.toNat) (by omega) (fun k hk=>hp _ (Z7c h.1 h.2 ha k hk))];have:=ih hc;rw[show(deco s i).2=(Zx s i).2.toNat by omega];exact this
 |case2 i h hlt=>
  intro hc
  have:(Zx s i).2=0:=by
   apply Classical.byContradiction;intro hh;exact h ⟨hlt,hh⟩
  rw[Z6T hlt this]at hc;omega
 |case3 i h hlt=>
  intro _;rw[Z8h (by omega),Z8i (by omega)];simp
def refM(s:List UInt8):Int:=
 if 65536<s.length then 2 else if 0<=chk s 0 then 40 else if anyB W0 s 0 then 50 else 0
def Jy(c:Int):Prop:=(97<=c/\c<=122)\/(65<=c/\c<=90)
def SchI(c:Int):Prop:=(48<=c/\c<=57)\/c=43\/c=45\/c=46
instance (c:Int):Decidable (Jy c):=by unfold Jy;infer_instance
instance (c:Int):Decidable (SchI c):=by unfold SchI;infer_instance
def schM(s:List UInt8)(i:Nat):Int:=
 if h:i<s.length then if Zl s i=58 then i else if Jy (Zl s i)\/i≠0/\SchI (Zl s i)then schM s (i+1)else 0 else 0
termination_by s.length-i
theorem Z4B{s:List UInt8}{i:Nat}(h:s.length<=i):schM s i=0:=by rw[schM,dif_neg (by omega)]
theorem Z04{s:List UInt8}{i:Nat}(h:i<s.length)(hc:Zl s i=58):schM s i=i:=by rw[schM,dif_pos h,if_pos hc]
theorem Z64{s:List UInt8}{i:Nat}(h:i<s.length)(hc:¬Zl s i=58)(hl:Jy (Zl s i)\/i≠0/\SchI (Zl s i)):schM s i=schM s (i+1):=by
 conv=>lhs;rw[schM]
 rw[dif_pos h,if_neg hc,if_pos hl]
theorem Z65{s:List UInt8}{i:Nat}(h:i<s.length)(hc:¬Zl s i=58)(hl:¬(Jy (Zl s i)\/i≠0/\SchI (Zl s i))):schM s i=0:=by
 rw[schM,dif_pos h,if_neg hc,if_neg hl]
theorem Zd6(s:List UInt8)(i:Nat):0<=schM s i/\schM s i<=s.length:=by
 induction i using schM.induct s with
 |case1 i h hc=>rw[Z04 h hc];omega
 |case2 i h hc hl ih=>rw[Z64 h hc hl];exact ih
 |case3 i h hc hl=>rw[Z65 h hc hl];omega
 |case4 i h=>rw[Z4B (by omega)];omega
def iriM(s:List UInt8):Int:=if refM s≠0 then refM s else if schM s 0=0 then 51 else 0
theorem UG{c:UInt8}:∀{l:List UInt8},c∉l->Lib.indexByte l c= -1
 | [],_=>rfl
 |b::l,h=>by
  have h1:¬b=c:=fun e=>h (by rw[e];exact List.mem_cons_self ..);have h2:c∉l:=fun e=>h (List.mem_cons_of_mem _ e);unfold Lib.indexByte;rw[UG h2];simp[h1]
theorem Z4C(i:Int):Zl bars i<128:=by
 unfold Zl;by_cases h:i.toNat<9
 ·have:∀n:Nat,n<9->((bars.getD n 0).toNat:Int)<128:=by decide
  exact this _ h
 ·have:bars.getD i.toNat 0=0:=by simp[List.getD,bars];rw[List.getElem?_eq_none (by simp;omega)];rfl
  rw[this];decide
theorem Zd7:∀c∈bars,c.toNat<128:=by decide
theorem Z9e{s:List UInt8}{i:Int}(h:0<=i/\i<s.length):∃c∈s,Zl s i=bn c:=by
 have:i.toNat<s.length:=by omega
 refine⟨s[i.toNat],List.getElem_mem this,?_⟩;unfold Zl bn;simp[List.getD,this]
theorem Zd8{l:List UInt8}{c:Int}(h:128<=c/\c<256)(hl:∀b∈l,b.toNat<128):Lib.indexByte l c.toNat.toUInt8= -1:=by
 apply UG;intro hm;have h1:=hl _ hm
 have:c.toNat.toUInt8.toNat=c.toNat:=by
  rw[Nat.toUInt8_eq,UInt8.toNat_ofNat_of_lt' (by show c.toNat<256;omega)]
 omega
def Z7d(r:Int):Prop:=(65<=r/\r<=90)\/(97<=r/\r<=122)\/(192<=r/\r<=214)\/(216<=r/\r<=246)\/(248<=r/\r<=767)\/(880<=r/\r<=893)\/(895<=r/\r<=8191)\/(8204<=r/\r<=8205)\/(8304<=r/\r<=8591)\/(11264<=r/\r<=12271)\/(12289<=r/\r<=55295)\/(63744<=r/\r<=64975)\/(65008<=r/\r<=65533)\/(65536<=r/\r<=983039)
instance (r:Int):Decidable (Z7d r):=by unfold Z7d;infer_instance
def Z3F(r:Int):Prop:=Z7d r\/r=95
instance (r:Int):Decidable (Z3F r):=by unfold Z3F;infer_instance
def Z2o(r:Int):Prop:=48<=r/\r<=57
instance (r:Int):Decidable (Z2o r):=by unfold Z2o;infer_instance
def W1(r:Int):Prop:=Z3F r\/Z2o r\/r=45\/r=183\/(768<=r/\r<=879)\/r=8255\/r=8256
instance (r:Int):Decidable (W1 r):=by unfold W1;infer_instance
def Z0G(r:Int):Prop:=Z3F r\/Z2o r
instance (r:Int):Decidable (Z0G r):=by unfold Z0G;infer_instance
def Z4D(s:List UInt8)(i e:Nat):Nat:=
 if h:(Zx s i).2≠0/\((Zx s i).1=46\/W1 (Zx s i).1)then
  Z4D s (i+(Zx s i).2.toNat) (if(Zx s i).1=46 then e else i+(Zx s i).2.toNat)
 else e
termination_by s.length-i
decreasing_by
 have:=Ug s i;omega
theorem Z9f{s:List UInt8}{i e:Nat}(h:(Zx s i).2≠0/\((Zx s i).1=46\/W1 (Zx s i).1)):Z4D s i e=Z4D s (i+(Zx s i).2.toNat) (if(Zx s i).1=46 then e else i+(Zx s i).2.toNat):=by
 conv=>lhs;rw[Z4D]
 rw[dif_pos h]
theorem Z9g{s:List UInt8}{i e:Nat}(h:¬((Zx s i).2≠0/\((Zx s i).1=46\/W1 (Zx s i).1))):Z4D s i e=e:=by
 rw[Z4D,dif_neg h]
def runM(p:Int->Prop)[DecidablePred p](s:List UInt8)(i:Int):Int:=
 if(Zx s i).2=0\/¬p (Zx s i).1 then 0 else(Z4D s (i.toNat+(Zx s i).2.toNat) (i.toNat+(Zx s i).2.toNat):Int)-i
def Z66(s:List UInt8):Int:=if runM Z0G s 0=0\/runM Z0G s 0≠s.length then 60 else 0
def allB(p:Int->Bool)(s:List UInt8)(i:Nat):Bool:=!anyB (fun c=>!p c) s i
theorem Zd9{p:Int->Bool}{s:List UInt8}{i:Nat}(h:s.length<=i):allB p s i=true:=by unfold allB;rw[Z8i h];rfl
theorem Zb8{p:Int->Bool}{s:List UInt8}{i:Nat}(h:i<s.length):allB p s i=(p (Zl s i)&&allB p s (i+1)):=by
 unfold allB;rw[Z7b h];simp
def Z4E(c:Int):Bool:=decide (Jy c)
def UH(c:Int):Bool:=decide (Z2o c)
def Zi(pure:Bool)(c:Int):Bool:=Z4E c||(!pure&&UH c)
def Y2(s:List UInt8)(least most:Int)(pure:Bool):Bool:=allB (Zi pure) s 0&&decide (least<=s.length/\(s.length:Int)<=most)
theorem Z67{c:Int}(h:128<=c):Z4E c=false:=decide_eq_false (by unfold Jy;omega)
theorem Z7e{c:Int}(h:128<=c):UH c=false:=decide_eq_false (by unfold Z2o;omega)
theorem Z3G{pure:Bool}{c:Int}(h:128<=c):Zi pure c=false:=by unfold Zi;rw[Z67 h,Z7e h];simp
def Vx(s:List UInt8):Bool:=s==[120]||s==[88]
def Z4F(s:List UInt8):Bool:=Y2 s 5 8 false||Y2 s 4 4 false&&UH (Zl s 0)
def W2(s:List UInt8):Bool:=Y2 s 2 2 true||decide (s.length=3)&&UH (Zl s 0)&&UH (Zl s 1)&&UH (Zl s 2)
def lowB(c:UInt8):UInt8:=if 65<=c.toNat/\c.toNat<=90 then UInt8.ofNat (c.toNat+32)else c
def Zu(s:List UInt8):List UInt8:=s.map lowB
def curL(s:List UInt8)(i:Nat):List UInt8:=(s.map lowB).take i++s.drop i
theorem Zda(s:List UInt8)(i:Nat):(curL s i).length=s.length:=by unfold curL;simp;omega
theorem Zb9(s:List UInt8):curL s 0=s:=by simp[curL]
theorem Zdb{s:List UInt8}{i:Nat}(h:s.length<=i):curL s i=Zu s:=by unfold curL Zu;rw[List.take_of_length_le (by simpa using h),List.drop_eq_nil_of_le h,List.append_nil]
theorem Zdc{s:List UInt8}{i:Nat}(h:i<s.length):(curL s i)[i]?=some s[i]:=by
 unfold curL;rw[List.getElem?_append_right (by simp;omega)];simp;rw[show min i s.length=i by omega];simp[h]
theorem Zdd{s:List UInt8}{i:Nat}(h:i<s.length):(curL s i).set i (lowB s[i])=curL s (i+1):=by
 unfold curL;rw[List.set_append_right _ _ (by simp;omega),List.drop_eq_getElem_cons h];simp only[List.length_map,List.length_take];rw[show i-min i s.length=0 by omega,List.set_cons_zero,List.take_succ_eq_append_getElem (by simpa using h),List.getElem_map,List.append_assoc]
 rfl
theorem Zba{s:List UInt8}{i:Nat}(h:i<s.length)(hc:lowB s[i]=s[i]):curL s i=curL s (i+1):=by
 unfold curL;rw[List.drop_eq_getElem_cons h,List.take_succ_eq_append_getElem (by simpa using h),List.getElem_map,hc,List.append_assoc]
 rfl
theorem Zde{s:List UInt8}{i:Nat}(h:i<s.length):((curL s i).map Sx.bytesRow)[i]?=some (Sx.bytesRow s[i]):=by
 rw[List.getElem?_map,Zdc h];rfl
theorem Zdf{s:List UInt8}{i:Nat}(h:i<s.length):((curL s i).map Sx.bytesRow).set i (Sx.bytesRow (lowB s[i]))=(curL s (i+1)).map Sx.bytesRow:=by
 rw[<-List.map_set,Zdd h]
theorem Zff{c:UInt8}(h:65<=(c.toNat:Int)/\(c.toNat:Int)<=90):[SV.int .u8 (IntKind.u8.wrap ((c.toNat:Int)+32))]=Sx.bytesRow (lowB c):=by
 unfold Sx.bytesRow lowB;rw[if_pos (by omega),ZgD (by omega) (by omega),UInt8.toNat_ofNat_of_lt' (by show c.toNat+32<256;omega)];simp
theorem Zfg{c:UInt8}(h:¬(65<=(c.toNat:Int)/\(c.toNat:Int)<=90)):lowB c=c:=by unfold lowB;rw[if_neg (by omega)]
end Go.Our
