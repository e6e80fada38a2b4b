/- Part 1: SxOpsI. Conditions: as each part says. -/
import Derived.Laws.IdiomStrings
import Derived.Test.YtlcbipfmodcedaaGreatDoorFrm0
set_option linter.unusedVariables false
set_option linter.unusedSimpArgs false
namespace Go.Sx
open Go
section
variable {M:Mx}{K:Env}{w:World}{O:vX}{nx:Nat}{ρ:Operand->Value}{lk:Operand->Option SV}{v:SV}{O':vX}{vW:Nat}{dst:Option Tmp}{ty:TypeId}{pos:String}{af:Array Edge}{gd:Option (Nat×Bool)}
theorem OR{w w':World}(h:w'.heap=w.heap)(a:Addr):w'.cell? a=w.cell? a:=by unfold World.cell?;rw[h]
structure pg(P:Program)(w:World)(K:Env)(es:Nat)(xs:List (List SV))(m:Nat)(xv:Value)(news:List Value):Prop where
 len:news.length=m*es
 one:∀u∈news,u.oneCell'=true
 den:uh K es xs news
 lenOf:∀w',(Builtin.lenOf xv).run P w'= .ok m w'
 first:∀w',w'.heap=w.heap->(Builtin.firstCells es m xv).run P w'= .ok ⟨news⟩ w'
theorem Xi(A:At M K w O nx ρ lk){es:Nat}{x:SV}{xv:Value}{xs:List (List SV)}{m:Nat}(hd:Den K x xv)(h:nM M.C O es x=some (xs,m))(hl:xs.length=m):∃news,pg M.P w K es xs m xv news:=by
 unfold nM at h;split at h
 .rename_i b r es' len lim;split at h
  case h_2=>cases h
  rename_i gW rs hh;split at h
  case h_2=>cases h
  rename_i h1;split at h
  case h_2=>cases h
  rename_i h2;have h1:=Zr h1;have h2:=Zr h2;subst h1 h2;simp only[zi,yF]at h;obtain⟨rfl,rfl⟩:=h;have u9:=A.H.look hh;simp only[vT]at u9;simp only[Den]at hd;rcases hd with⟨q1,rfl,q3⟩|⟨en,o,q1,rfl,q3,q4,q5⟩
  .subst q3;refine⟨[],by simp,by simp,by simp[uh],fun w'=>rfl,fun w' _=>rfl⟩
  .by_cases h0:len=0
   .subst h0;refine⟨[],by simp,by simp,by simp[uh],fun w'=>rfl,fun w' _=>?_⟩;simp[Builtin.firstCells,loadCells,loadCellsFrom]
   .rcases u9 with⟨q6,rfl⟩|⟨cu,arr,T,fz,q6,q7,_,q8⟩
    rw[q1]at q6;cases q6;rw[q1]at q6;injection q6 with q6;injection q6 with q6;subst q6
    have TF:∀(i:Nat) (row:List SV),((rs.drop r).take len)[i]?=some row->row.length=es/\uj K arr (en.base+r*es+i*es) row:=by
     intro i row hi;rw[zS]at hi;split at hi
     .rw[y6]at hi;obtain⟨p1,p2⟩:=q8 _ row hi;refine⟨p1,?_⟩;rw[show en.base+r*es+i*es=en.base+(r+i)*es by rw[xK];omega];exact p2
     cases hi
    obtain⟨p1,p2,p3⟩:=Ez TF;rw[hl]at p1 p2 p3;have ho:=q5 (by omega);subst ho;refine⟨_,p2,p3,p1,fun w'=>rfl,fun w' hw'=>?_⟩
    have hcell:∀j u,((arr.toList.drop (en.base+r*es)).take (len*es))[j]?=some u->w'.cell? ((⟨en.g,en.base+r*es,none⟩:Addr).add j)=some u:=by
     intro j u hj;rw[zS]at hj;split at hj
     .rw[y6]at hj;rw[Addr.add_lit,OR hw'];simp only[World.cell?,q7];simpa using hj
     cases hj
    exact run_firstCells_some (P:=M.P) w' es len ⟨en.g,en.base+r*es,none⟩ len _ _ p2 hcell
 .simp only[zi,yF]at h;obtain⟨rfl,rfl⟩:=h;rename_i p;obtain⟨rfl,_⟩:xv= .slice p 0 0/\_:=hd;exact⟨[],by simp,by simp,by simp[uh],fun w'=>rfl,fun w' _=>by cases p<;>simp[Builtin.firstCells,loadCells,loadCellsFrom]⟩
 .rename_i s;split at h
  case h_2=>cases h
  rename_i h1;have h1:=Zr h1;subst h1;simp only[zi,yF]at h;obtain⟨rfl,rfl⟩:=h;have hd':=lP hd;clear hd;subst hd';refine⟨s.map fun b=> .int .u8 (b.toNat:Int),by simp,?_,?_,fun w'=>?_,fun w' _=>?_⟩
  .intro u hu;obtain⟨b,_,rfl⟩:=yc.1 hu
   rfl
  .clear hl
   induction s with
   |nil=>simp[uh]
   |cons b s ih=>
    simp only[zG,uh];exact⟨[.int .u8 (b.toNat:Int)],_,rfl,rfl,by simp[bytesRow,vV,Den],ih⟩
  simp[Builtin.lenOf,VM]
  .have:(ByteArray.mk s.toArray).extract 0 s.length=⟨s.toArray⟩:=by rw[VW];simp
   simp[Builtin.firstCells,this]
 cases h
theorem OS{es:Nat}:∀{rs qs:List (List SV)} {us vs:List Value},uh K es rs us->uh K es qs vs->uh K es (rs++qs) (us++vs)
 | [],qs,us,vs,h,k=>by simp only[uh]at h;subst h;exact k
 |r::rs,qs,us,vs,h,k=>by
  simp only[uh]at h;obtain⟨a,b,rfl,h1,h2,h3⟩:=h;simp only[List.cons_append,uh,zR];exact⟨a,_,rfl,h1,h2,OS h3 k⟩
theorem F9{arr:Array Value}{es r cap:Nat}{rs xs:List (List SV)}{us:List Value}(hsz:arr.size=cap*es)(QH:r+xs.length<=cap)(hrr:r<=rs.length)
 (hr:∀(i:Nat) (row:List SV),rs[i]?=some row->row.length=es/\uj K arr (0+i*es) row) (hd:uh K es xs us) (h1:∀u∈us,u.oneCell'=true):
 r*es+us.length<=arr.size/\
 ∀(i:Nat) (q:List SV),(rs.take r++xs++rs.drop (r+xs.length))[i]?=some q->q.length=es/\uj K (arr.toList.take (r*es)++us++arr.toList.drop (r*es+us.length)).toArray (0+i*es) q:=by
 have hl:=V7 hd
 have hfit:r*es+us.length<=arr.size:=by
  have:(r+xs.length)*es<=cap*es:=ym _ QH;rw[xK]at this;omega
 refine⟨hfit,?_⟩;intro i q hi;have ht:(rs.take r).length=r:=by rw[zq];omega
 rw[zR]at hi;by_cases hir:i<r
 .rw[zn (by omega),zS,zf hir]at hi;obtain⟨p1,p2⟩:=hr i q hi;refine⟨p1,EE (o:=0+i*es) p2 p1 hfit (.inl ?_)⟩;have:(i+1)*es<=r*es:=ym _ hir;rw[yC]at this;omega
 .rw[zw (by omega),ht]at hi;by_cases bf:i-r<xs.length
  .rw[zn bf]at hi;obtain⟨p1,p2⟩:=X7 hd h1 (i-r) q hi;refine⟨p1,fun j sv hj=>?_⟩;obtain⟨u,p3,p4,p5⟩:=p2 j sv hj;refine⟨u,?_,p4,p5⟩;have hlt:=(zA.1 p3).1;have TG:(arr.toList.take (r*es)).length=r*es:=by rw[zq];simp;omega
   have hi':i*es=r*es+(i-r)*es:=by rw[<-xK];congr 1;omega
   simp only[zR,yX];rw[zw (by omega),TG,zn (by simp at hlt;omega)];rw[show 0+i*es+j-r*es=0+(i-r)*es+j by omega];simpa using p3
  .rw[zw (by omega),y6]at hi;rw[show r+xs.length+(i-r-xs.length)=i by omega]at hi;obtain⟨p1,p2⟩:=hr i q hi;refine⟨p1,EE (o:=0+i*es) p2 p1 hfit (.inr ?_)⟩;have:(r+xs.length)*es<=i*es:=ym _ (by omega);rw[xK]at this;omega
theorem TH{need old:Nat}(h:old<need):Builtin.nextslicecap need old<=need+need/4+192:=by
 unfold Builtin.nextslicecap;split
 omega
 .split
  omega
  .rw[growBy_four]
   (repeat' split)<;>omega
theorem OU{need old bytes:Nat}(h:old<need)(hb:min (2*need) (need+need/4+192)*bytes<=281474976710656):Builtin.nextslicecap need old*bytes<=281474976710656:=
 zO (ym _ (Nat.le_min.2 ⟨nextslicecap_le h,TH h⟩)) hb
theorem OV{k b:Nat}(h:k*b<=140737488355328):min (2*k) (k+k/4+192)*b<=281474976710656:=
 zO (ym _ (Nat.min_le_left _ _)) (by rw[Nat.mul_assoc];omega)
theorem TI{P:Program}{w:World}{t u e:TypeId}{i:TypeInfo}{z:Value}{ty:TypeId}{base:Option Addr}{n cap m:Nat}{xv:Value}{olds news:List Value}(ht:P.underlying t=some (.slice e))(hu:(∃q,P.underlying u=some (.slice q))\/P.underlying u=some .string)(hi:P.info? e=some i)(hz:i.zero=some z)
 (hn:∀w',(Builtin.lenOf xv).run P w'= .ok m w') (hf:∀w',w'.heap=w.heap->(Builtin.firstCells i.size m xv).run P w'= .ok ⟨news⟩ w') (ho:∀w',w'.heap=w.heap->(Builtin.firstCells i.size n (.slice base n cap)).run P w'= .ok ⟨olds⟩ w')
 (hroom:cap<n+m) (h63:n+m<=9223372036854775807) (hbytes:min (2*(n+m)) ((n+m)+(n+m)/4+192)*i.bytes<=281474976710656):
 (Builtin.append_ #[t,u] ty #[.slice base n cap,xv]).run P w= .ok (.slice (some ⟨w.heap.size,0,none⟩) (n+m) (grownCap w (n+m) cap e))
   (w.drew.alloc (.cells ⟨olds++news++(Builtin.zeroCells z.cells (grownCap w (n+m) cap e-(n+m))).toList⟩ e)):=by
 have hcap:=OU hroom hbytes;have h1:¬(n+m<=cap):=by omega
 have h2:¬(9223372036854775807< ((n:Int)+(m:Int))):=by omega
 have h3:¬(281474976710656<Builtin.nextslicecap (n+m) cap*i.bytes):=by omega
 have j8:=hf w.drew rfl;have hd2:=ho w.drew rfl
 have qI:(Array.mk olds++Array.mk news++Builtin.zeroCells z.cells (grownCap w (n+m) cap e-(n+m)))=⟨olds++news++(Builtin.zeroCells z.cells (grownCap w (n+m) cap e-(n+m))).toList⟩:=by
  apply yD;simp
 have OW:(choose (.appendCap (n+m) cap e)).run P w= .ok (grownCap w (n+m) cap e) w.drew:=by
  simp[grownCap,Question.forced]
 rw[<-qI];rcases hu with⟨q,hu⟩|hu
 .simp[Builtin.append_,Z6 ht,Z6 hu,Zt hi,We hi,XT hi hz,hn,h1,h2,h3,j8,hd2,newRow,Question.forced,grownCap];try(congr 2;apply yD;simp)
 .simp[Builtin.append_,Z6 ht,Z6 hu,Zt hi,We hi,XT hi hz,hn,h1,h2,h3,j8,hd2,newRow,Question.forced,grownCap];try(congr 2;apply yD;simp)
theorem OX{P:Program}{w:World}{t u e:TypeId}{i:TypeInfo}{ty:TypeId}{g n cap m:Nat}{arr:Array Value}{tt:TypeId}{fz:Nat×Nat}{xv:Value}{news:List Value}(ht:P.underlying t=some (.slice e))(hu:(∃q,P.underlying u=some (.slice q))\/P.underlying u=some .string)(hi:P.info? e=some i)
 (hn:∀w',(Builtin.lenOf xv).run P w'= .ok m w') (hf:∀w',w'.heap=w.heap->(Builtin.firstCells i.size m xv).run P w'= .ok ⟨news⟩ w')
 (hg:w.heap[g]?=some (.cells arr tt fz)) (TJ:Vu arr.size fz) (h1:∀u∈news,u.oneCell'=true) (hroom:n+m<=cap) (hfit:n*i.size+news.length<=arr.size):
 (Builtin.append_ #[t,u] ty #[.slice (some ⟨g,0,none⟩) n cap,xv]).run P w= .ok (.slice (some ⟨g,0,none⟩) (n+m) cap) (w.setRow g (arr.toList.take (n*i.size)++news++arr.toList.drop (n*i.size+news.length)).toArray):=by
 have j8:=hf w rfl;have hst:=X2 (P:=P) g (n*i.size) tt fz news 0 arr w hg (by simpa using hfit) TJ h1;simp only[Nat.add_zero]at hst;have mw:(⟨g,0,none⟩:Addr).add (n*i.size)=⟨g,n*i.size,none⟩:=by rw[Addr.add_lit,zx]
 rcases hu with⟨q,hu⟩|hu
 simp[Builtin.append_,Z6 ht,Z6 hu,Zt hi,hn,hroom,j8,mw,hst];simp[Builtin.append_,Z6 ht,Z6 hu,Zt hi,hn,hroom,j8,mw,hst]
theorem OY{P:Program}{w:World}{t u e:TypeId}{i:TypeInfo}{ty:TypeId}{xv:Value}(ht:P.underlying t=some (.slice e))(hu:(∃q,P.underlying u=some (.slice q))\/P.underlying u=some .string)(hi:P.info? e=some i)
 (hn:∀w',(Builtin.lenOf xv).run P w'= .ok 0 w') (hf:∀w',w'.heap=w.heap->(Builtin.firstCells i.size 0 xv).run P w'= .ok ⟨[]⟩ w'):
 (Builtin.append_ #[t,u] ty #[.slice none 0 0,xv]).run P w= .ok (.slice none 0 0) w:=by
 have j8:=hf w rfl;rcases hu with⟨q,hu⟩|hu
 simp[Builtin.append_,Z6 ht,Z6 hu,Zt hi,hn,j8];simp[Builtin.append_,Z6 ht,Z6 hu,Zt hi,hn,j8]
theorem EP{K:Env}{es:Nat}{z:List SV}{zs:List Value}(hz:vV K z zs)(hl:zs.length=es):∀n,uh K es (List.replicate n z) (XP zs n)
 |0=>by simp[uh,XP]
 |n+1=>by
  rw[List.replicate_succ,OD];simp only[uh];exact⟨zs,XP zs n,rfl,hl,hz,EP hz hl n⟩
theorem TK{P:Program}{w:World}{t u e:TypeId}{i:TypeInfo}{z:Value}{ty:TypeId}{k kk:IntKind}{n:Int}(ht:P.underlying t=some (.slice e))(hu:P.underlying u=some (.int k))(hi:P.info? e=some i)(hz:i.zero=some z)(hs:0<i.size)
 (h0:0<n) (h63:n<=9223372036854775807) (hby:n.toNat*i.bytes<=140737488355328):
 (Builtin.append_ #[t,u] ty #[.slice none 0 0, .int kk n]).run P w= .ok (.slice (some ⟨w.heap.size,0,none⟩) n.toNat (grownCap w n.toNat 0 e))
   (w.drew.alloc (.cells ⟨(Builtin.zeroCells z.cells n.toNat).toList++(Builtin.zeroCells z.cells (grownCap w n.toNat 0 e-n.toNat)).toList⟩ e)):=by
 obtain⟨m,rfl⟩:∃m:Nat,n=(m:Int):=⟨n.toNat,by omega⟩;simp only[Int.toNat_natCast]at hby⊢;have hw:IntKind.i64.wrap (m:Int)=m:=IntWalk.i64_in _ ⟨by omega,by omega⟩;have hcap:=OU (need:=m) (old:=0) (bytes:=i.bytes) (by omega) (OV hby);have h1:¬(281474976710656< (m:Int)*(i.bytes:Int)):=by rw[<-Int.natCast_mul];omega
 have h2:¬(281474976710656<Builtin.nextslicecap m 0*i.bytes):=by omega
 have h3:¬m=0:=by omega
 have h4:¬i.size=0:=by omega
 have h7:¬m*i.size=0:=Nat.mul_ne_zero h3 h4;have h5:¬(9223372036854775807< (m:Int)):=by omega
 have h6:¬((m:Int)<0):=by omega
 simp[Builtin.append_,Z6 ht,Z6 hu,Zt hi,We hi,XT hi hz,asInt,asIntOf,hw,h1,h2,h3,h4,h5,h6,h7,newRow,Question.forced,grownCap,Builtin.firstCells];try(congr 2;apply yD;simp)
theorem TL{P:Program}{w:World}{t u e:TypeId}{i:TypeInfo}{ty:TypeId}{k kk:IntKind}(ht:P.underlying t=some (.slice e))(hu:P.underlying u=some (.int k))(hi:P.info? e=some i):
 (Builtin.append_ #[t,u] ty #[.slice none 0 0, .int kk 0]).run P w= .ok (.slice none 0 0) w:=by
 have hw:IntKind.i64.wrap 0=0:=IntWalk.i64_in _ ⟨by omega,by omega⟩;simp[Builtin.append_,Z6 ht,Z6 hu,Zt hi,We hi,asInt,asIntOf,hw]
theorem OZ{P:Program}{nx es:Nat}{t u e:TypeId}{ie:TypeInfo}{z sv xv:Value}{base:Option Addr}{n cap m b:Nat}{olds news:List Value}{rs xs:List (List SV)}(hη:K.length=nx)(hd:P.underlying t=some (.slice e))(hu:(∃q,P.underlying u=some (.slice q))\/P.underlying u=some .string)(h1:P.info? e=some ie)(h2:ie.zero=some z)(uR:ie.size=es)(fM:ie.bytes=b)(hzl:z.cells.size=es)
 (qY:sv= .slice base n cap) (N:pg P w K es xs m xv news) (hroom:cap<n+m) (h63:n+m<=9223372036854775807) (hby:min (2*(n+m)) ((n+m)+(n+m)/4+192)*b<=281474976710656)
 (ho:∀w',w'.heap=w.heap->(Builtin.firstCells es n (.slice base n cap)).run P w'= .ok ⟨olds⟩ w') (sq:uh K es rs olds) (QI:∀u∈olds,u.oneCell'=true) (hrl:rs.length=n) (hxl:xs.length=m):
 ∃z' w' cap' arr T fz,(Builtin.append_ #[t,u] ty #[sv,xv]).run P w= .ok z' w'/\w'.heap=w.heap.push (.cells arr T fz)/\(w'.os=w.os/\w'.tape=w.tape/\w'.output=w.output/\w.drawn<=w'.drawn)/\
  Den (K++ [some ⟨w.heap.size,0,cap'⟩]) (.sl (.loc nx) 0 es (n+m) none) z'/\uM (K++ [some ⟨w.heap.size,0,cap'⟩]) w' true (.loc nx) es (rs++xs)/\∀(k:Nat) u,olds[k]?=some u->arr[k]?=some u:=by
 have hge:=grownCap_ge w (n+m) cap e;have hrun:=TI (P:=P) (ty:=ty) (base:=base) (i:=ie) hd hu h1 h2 N.lenOf (by rw[uR];exact N.first) (by rw[uR];exact ho) hroom h63 (by rw[fM];exact hby);rw[<-qY]at hrun;have nP:=OS sq N.den;have hlen:=V7 nP
 have hone:∀u∈olds++news,u.oneCell'=true:=by
  intro u hu;rcases zQ.1 hu with hu|hu
  exact QI u hu;exact N.one u hu
 have ER:=X7 nP hone;refine⟨_,_,grownCap w (n+m) cap e,_,e,(0,0),hrun,rfl,⟨rfl,rfl,rfl,Nat.le_succ _⟩,UN hη hge,?_,fun k u hk=>?_⟩
 .right
  have oU:(olds++news++(Builtin.zeroCells z.cells (grownCap w (n+m) cap e-(n+m))).toList).length=grownCap w (n+m) cap e*es:=by
   rw[zh,hlen,zh,hrl,hxl,Array.length_toList,size_zeroCells,hzl,<-xK];congr 1;omega
  refine⟨_,_,e,(0,0),ZO hη _,Yx (w:=w) (w':=w.drew.alloc _) rfl,fun _=>⟨Wf _,oU,?_,rfl⟩,?_⟩;rw[zh,hrl,hxl];exact hge
  .intro k row hk;obtain⟨p1,p2⟩:=ER k row hk;refine⟨p1,fun j mC hj=>?_⟩;obtain⟨y,p3,p4,p5⟩:=p2 j mC hj;refine⟨y,?_,p4,p5.mono (zz _ _)⟩;have hlt:=(zA.1 p3).1;simp only[yX];rw[zn (by simpa using hlt)];simpa using p3
 .have hlt:=(ze.1 hk).1;simp only[yX,zR];rw[zn hlt];exact hk
structure Grown(K:Env)(w:World)(i es n:Nat)(w':World)(x:Option wZ):Prop where
 os:w'.os=w.os
 tape:w'.tape=w.tape
 output:w'.output=w.output
 drawn:w.drawn<=w'.drawn
 size:w.heap.size<=w'.heap.size
 hold:∀k,k<w.heap.size->(∀e,K[i]?=some (some e)->e.g≠k)->w'.heap[k]?=w.heap[k]?
 blk:∀e,x=some e->e.base=0/\(K[i]?=some (some e)\/e.g=w.heap.size)
 cells:∀e o a b,x=some e->w'.heap[e.g]?=some o->a<n->b<es->∃e0 o0,K[i]?=some (some e0)/\w.heap[e0.g]?=some o0/\ZI o es a b=ZI o0 es a b
theorem vR.lR(H:vR M K w O nx){i es n:Nat}{h h':Hp}(hi:u5 i O=some h){w':World}{x:Option wZ}(G:Grown K w i es n w' x)(hs:vT (K++ [x]) w' true (.loc nx) h')
 (hf:∀k,vY (K++ [x]) w' (.loc nx) h' k->vY K w (.loc i) h k\/w.heap.size<=k):vR M (K++ [x]) w' ((nx,h')::uU i O) (nx+1):=by
 have hpre:K<+:K++ [x]:=zz _ _;have hold:∀k,k<w.heap.size->¬vY K w (.loc i) h k->w'.heap[k]?=w.heap[k]?:=fun k hk hn=>G.hold k hk fun e he TM=>hn (TM▸vY.own he)
 have back:∀{j g},u5 j (uU i O)=some g->j≠i/\u5 j O=some g:=fun{j g} hj=>by
  have hne:j≠i:=fun e=>by subst e;rw[Yd]at hj;cases hj
  exact⟨hne,by rw[<-XS i O j hne];exact hj⟩
 have keep:∀{j g},u5 j (uU i O)=some g->∀k,vY K w (.loc j) g k->w'.heap[k]?=w.heap[k]?:=fun{j g} hj k f=>hold k ((H.own.1 j g (back hj).2).1.uy f) fun f'=>H.own.2 j i g h k (back hj).2 hi (back hj).1 f f';have bk:∀{j g},u5 j (uU i O)=some g->∀k,vY (K++ [x]) w' (.loc j) g k->vY K w (.loc j) g k:=fun{j g} hj k f=>H.stands hpre (back hj).2 (keep hj) f;refine{pre:=H.pre.trans hpre,len:=by simp[H.len],wm:=H.wm,own:=⟨fun j g hj=>?_,fun j j' g g' k hj hj' hne f f'=>?_⟩,fr:=⟨G.os.trans H.fr.os,G.tape.trans H.fr.tape,G.output.trans H.fr.output,zO H.fr.drawn G.drawn,zO H.fr.size G.size,fun k hk hF=>?_⟩}
 .rw[Z8]at hj;split at hj
  .rename_i hq;subst hq;injection hj with hj;subst hj
   refine⟨hs,fun k f=>(hf k f).elim (fun f=>(H.own.1 i h hi).2 k f) fun hk=> .inr (zO H.fr.size hk)⟩
  exact⟨((H.own.1 j g (back hj).2).1.keep (keep hj)).mono hpre,fun k f=>(H.own.1 j g (back hj).2).2 k (bk hj k f)⟩
 .have other:∀{a g},u5 a (uU i O)=some g->vY (K++ [x]) w' (.loc a) g k->vY (K++ [x]) w' (.loc nx) h' k->False:=fun{a g} ha f f'=>by
   have f:=bk ha k f;rcases hf k f' with f'|hk
   exact H.own.2 a i g h k (back ha).2 hi (back ha).1 f f';have:=(H.own.1 a g (back ha).2).1.uy f;omega
  rw[Z8]at hj hj';split at hj
  .rename_i hq;subst hq;injection hj with hj;subst hj
   rw[z7 (yY hne)]at hj';exact other hj' f' f
  .split at hj'
   .rename_i hq;subst hq;injection hj' with hj';subst hj'
    exact other hj f f'
   exact H.own.2 j j' g g' k (back hj).2 (back hj').2 hne (bk hj k f) (bk hj' k f')
 .rw[hold k (yH hk H.fr.size) fun f=>?_];exact H.fr.block k hk hF
  .rcases(H.own.1 i h hi).2 k f with h|h
   exact hF h;omega
theorem P0{a b n es:Nat}(ha:a<n)(hb:b<es):a*es+b<n*es:=by
 have:=ym es (show a+1<=n from ha);rw[yC]at this;omega
theorem P3{P:Program}{i es:Nat}{t u e:TypeId}{ie:TypeInfo}{z sv xv:Value}{n m b:Nat}{news:List Value}{rs xs:List (List SV)}(hη:K.length=nx)(hd:P.underlying t=some (.slice e))(hu:(∃q,P.underlying u=some (.slice q))\/P.underlying u=some .string)(h1:P.info? e=some ie)(h2:ie.zero=some z)(uR:ie.size=es)(fM:ie.bytes=b)(hzl:z.cells.size=es)
 (cw:Den K (.sl (.loc i) 0 es n none) sv) (u9:uM K w true (.loc i) es rs) (N:pg P w K es xs m xv news) (q1:xs.length=m) (q2:n<=rs.length) (q3:n+m<=9223372036854775807) (q4:min (2*(n+m)) ((n+m)+(n+m)/4+192)*b<=281474976710656):
 ∃z' w' x,(Builtin.append_ #[t,u] ty #[sv,xv]).run P w= .ok z' w'/\Den (K++ [x]) (.sl (.loc nx) 0 es (n+m) none) z'/\uM (K++ [x]) w' true (.loc nx) es (rs.take n++xs)/\Grown K w i es n w' x:=by
 have jq:∀{base:Option Addr} {cap:Nat} {olds:List Value} {rs:List (List SV)},sv= .slice base n cap->cap<n+m->(∀w',w'.heap=w.heap->(Builtin.firstCells es n (.slice base n cap)).run P w'= .ok ⟨olds⟩ w')->uh K es rs olds->(∀u∈olds,u.oneCell'=true)->rs.length=n->
  (∀a b,a<n->b<es->∃e0 o0 v,K[i]?=some (some e0)/\w.heap[e0.g]?=some o0/\ZI o0 es a b=some v/\olds[a*es+b]?=some v)->
  ∃z' w' x,(Builtin.append_ #[t,u] ty #[sv,xv]).run P w= .ok z' w'/\Den (K++ [x]) (.sl (.loc nx) 0 es (n+m) none) z'/\uM (K++ [x]) w' true (.loc nx) es (rs++xs)/\Grown K w i es n w' x:=by
  intro base cap olds rs qY hroom ho sq QI hrl hc;obtain⟨z',w',cap',arr,T,fz,p1,p2,⟨p3,p4,p5,p6⟩,p7,p8,p9⟩:=OZ (ty:=ty) hη hd hu h1 h2 uR fM hzl qY N hroom q3 q4 ho sq QI hrl q1;refine⟨z',w',_,p1,p7,p8,⟨p3,p4,p5,p6,by rw[p2];simp,fun k hk _=>?_,fun e he=>?_,fun e o a b he ho ha hb=>?_⟩⟩;rw[p2,xW,z7 (by omega)];injection he with he;subst he;exact⟨rfl, .inr rfl⟩
  .injection he with he;subst he;rw[Yx p2]at ho;injection ho with ho;subst ho
   obtain⟨e0,o0,v,g1,g2,g3,g4⟩:=hc a b ha hb;exact⟨e0,o0,g1,g2,by rw[g3];exact p9 _ _ g4⟩
 have lS:m=0->xs=[]/\news=[]:=fun hm0=>by
  subst hm0;exact⟨zM.1 q1,by apply zM.1;rw[N.len];omega⟩
 have still:∀{x:Option wZ},(∀e,x=some e->e.base=0/\K[i]?=some (some e))->n=0->Grown K w i es n w x:=fun{x} hx hn=>
  ⟨rfl,rfl,rfl,zo _,zo _,fun _ _ _=>rfl,fun e he=>⟨(hx e he).1, .inl (hx e he).2⟩,fun e o a b _ _ ha=>by omega⟩
 simp only[Den,Env.get]at cw;unfold uM at u9;simp only[Env.get]at u9;rcases cw with⟨p1,qY,p3⟩|⟨en,o,p1,qY,p3,p4,p5⟩
 .rcases u9 with⟨p6,rfl⟩|⟨cu,arr,T,fz,p6,_⟩
  case inr=>rw[p1]at p6;cases p6
  subst p3;by_cases hm0:m=0
  .subst hm0;obtain⟨rfl,rfl⟩:=lS rfl;have hrun:=OY (P:=P) (ty:=ty) (w:=w) (i:=ie) hd hu h1 N.lenOf (by rw[uR];exact N.first);rw[<-qY]at hrun;exact⟨_,w,none,hrun,Or.inl ⟨ZO hη _,qY,rfl⟩,Or.inl ⟨ZO hη _,rfl⟩,still (fun e h=>by cases h) rfl⟩
  exact jq (rs:=[]) (olds:=[]) qY (by omega) (fun w' _=>rfl) (by simp[uh]) (by simp) rfl (fun a b ha=>by omega)
 .rcases u9 with⟨p6,_⟩|⟨cu,arr,T,fz,p6,p7,p8,p9⟩
  rw[p1]at p6;cases p6;rw[p1]at p6;injection p6 with p6;injection p6 with p6;subst p6
  obtain⟨ai,aj,QJ,jW⟩:=p8 trivial;rw[jW]at p9;simp only[Option.getD_none]at qY p3 p4 p5
  have Fa:∀(k:Nat) (row:List SV),(rs.take n)[k]?=some row->row.length=es/\uj K arr (0+k*es) row:=by
   intro k row hk;rw[zS]at hk;split at hk
   exact p9 k row hk;cases hk
  have sr:(rs.take n).length=n:=by rw[zq];omega
  obtain⟨g1,g2,g3⟩:=Ez Fa;rw[sr]at g1 g2 g3;by_cases P4:en.cap=0
  ·
   have hn0:n=0:=by omega
   subst hn0;by_cases hm0:m=0
   .subst hm0;obtain⟨rfl,rfl⟩:=lS rfl
    have hrun:(Builtin.append_ #[t,u] ty #[sv,xv]).run P w= .ok (.slice (some ⟨en.g,o,none⟩) 0 (en.cap-0)) w:=by
     have j8:=N.first w rfl;rcases hu with⟨q,hu⟩|hu<;>simp[qY,Builtin.append_,Z6 hd,Z6 hu,Zt h1,N.lenOf,uR,j8,storeCells]
    refine⟨_,w,some en,hrun,?_,?_,still (fun e h=>by injection h with h;subst h;exact⟨jW,p1⟩) rfl⟩
    .simp only[Den];right
     exact⟨en,o,ZO hη _,by simp,by simp,by simp,fun _=>p5 (.inr trivial)⟩
    exact .inr ⟨en,arr,T,fz,ZO hη _,p7,fun _=>⟨ai,aj,by simp,jW⟩,fun k row hk=>by simp at hk⟩
   exact jq (rs:=[]) (olds:=[]) qY (by omega) (fun w' _=>by simp[Builtin.firstCells,loadCells,loadCellsFrom]) (by simp[uh]) (by simp) rfl (fun a b ha=>by omega)
  .have ho:=p5 (.inl (by omega));rw[jW]at ho;simp only[yO,Nat.add_zero]at ho;subst ho;by_cases hroom:n+m<=en.cap
   .obtain⟨r1,r2⟩:=F9 aj (r:=n) (by omega) (by rw[sr];exact zo _) Fa N.den N.one;have hrun:=OX (P:=P) (ty:=ty) (w:=w) (i:=ie) (cap:=en.cap) hd hu h1 N.lenOf (by rw[uR];exact N.first) p7 ai N.one hroom (by rw[uR];exact r1);rw[show Value.slice (some ⟨en.g,0,none⟩) n en.cap=sv by rw[qY];simp]at hrun;rw[uR]at hrun
    have jr:(arr.toList.take (n*es)++news++arr.toList.drop (n*es+news.length)).toArray.size=arr.size:=by
     simp only[ye,zh,zq,zD,Array.length_toList];omega
    have hnew:=setRow_heap w en.g arr (arr.toList.take (n*es)++news++arr.toList.drop (n*es+news.length)).toArray T fz p7
    refine⟨_,_,some en,hrun,?_, .inr ⟨en,_,T,fz,ZO hη _,hnew,fun _=>⟨by rw[jr];exact ai,by rw[jr];exact aj,by rw[zh,sr,q1];omega,jW⟩,fun k q hk=>?_⟩,
     ⟨rfl,rfl,rfl,zo _,by rw[setRow_size];exact zo _,fun k _ hk=>setRow_other w en.g k _ (hk en p1).symm,fun e h=>by injection h with h;subst h;exact⟨jW, .inl p1⟩,fun e o a b he ho ha hb=>?_⟩⟩
    .simp only[Den];right
     exact⟨en,0,ZO hη _,by simp,by simpa using hroom,by simp,fun _=>by simp[jW]⟩
    .rw[jW]
     obtain⟨p1,p2⟩:=r2 k q (by
      rw[xT,Nat.min_self];rw[zn (ze.1 hk).1]
      exact hk)
     exact⟨p1,p2.mono (zz _ _)⟩
    .injection he with he;subst he;rw[hnew]at ho;injection ho with ho;subst ho
     refine⟨_,_,p1,p7,?_⟩;have hlt:=P0 ha hb;simp only[ZI,yX,zR];rw[zn (by rw[zq,Array.length_toList];omega),zS,zf hlt];simp
   .refine jq (rs:=rs.take n) qY (by omega) (fun w' hw'=>?_) g1 g3 sr (fun a b ha hb=>?_)
    .have hcell:∀j u,((arr.toList.drop 0).take (n*es))[j]?=some u->w'.cell? ((⟨en.g,0,none⟩:Addr).add j)=some u:=by
      intro j u hj;rw[zS]at hj;split at hj
      .rw[y6]at hj;rw[Addr.add_lit,OR hw'];simp only[World.cell?,p7];simpa using hj
      cases hj
     exact run_firstCells_some (P:=P) w' es n ⟨en.g,0,none⟩ n _ _ g2 hcell
    .have hlt:=P0 ha hb
     have hin:a*es+b<arr.size:=by
      have:n*es<=en.cap*es:=ym _ (by omega);omega
     refine⟨en,_,arr[a*es+b],p1,p7,by simp[ZI,hin],?_⟩;rw[zS,zf hlt];simp[hin]
theorem TN{P:Program}{i es l:Nat}{t u e:TypeId}{ie:TypeInfo}{sv xv:Value}{n m:Nat}{news:List Value}{rs xs:List (List SV)}(hd:P.underlying t=some (.slice e))(hu:(∃q,P.underlying u=some (.slice q))\/P.underlying u=some .string)(h1:P.info? e=some ie)(uR:ie.size=es)
 (cw:Den K (.sl (.loc i) 0 es n (some l)) sv) (u9:uM K w true (.loc i) es rs) (N:pg P w K es xs m xv news) (q1:xs.length=m) (q0:0<n) (q2:n<=rs.length) (q3:n+m<=l):
 ∃z' w' en,(Builtin.append_ #[t,u] ty #[sv,xv]).run P w= .ok z' w'/\Den K (.sl (.loc i) 0 es (n+m) (some l)) z'/\K[i]?=some (some en)/\(∀k,k≠en.g->w'.heap[k]?=w.heap[k]?)/\w'.heap.size=w.heap.size/\w'.os=w.os/\w'.tape=w.tape/\w'.output=w.output/\w.drawn<=w'.drawn/\
  uM K w' true (.loc i) es (rs.take n++xs):=by
 simp only[Den,Env.get]at cw;unfold uM at u9;simp only[Env.get]at u9;rcases cw with⟨p1,qY,p3⟩|⟨en,o,p1,qY,p3,p4,p5⟩
 omega;rcases u9 with⟨p6,_⟩|⟨cu,arr,T,fz,p6,p7,p8,p9⟩
 rw[p1]at p6;cases p6;rw[p1]at p6;injection p6 with p6;injection p6 with p6;subst p6
 obtain⟨ai,aj,QJ,jW⟩:=p8 trivial;rw[jW]at p9;simp only[Option.getD_some]at qY p3 p4 p5
 have Fa:∀(k:Nat) (row:List SV),(rs.take n)[k]?=some row->row.length=es/\uj K arr (0+k*es) row:=by
  intro k row hk;rw[zS]at hk;split at hk
  exact p9 k row hk;cases hk
 have sr:(rs.take n).length=n:=by rw[zq];omega
 have ho:=p5 (.inr trivial);rw[jW]at ho;simp only[yO,Nat.add_zero]at ho;subst ho;obtain⟨r1,r2⟩:=F9 aj (r:=n) (by omega) (by rw[sr];exact zo _) Fa N.den N.one;have hrun:=OX (P:=P) (ty:=ty) (w:=w) (i:=ie) (cap:=l) hd hu h1 N.lenOf (by rw[uR];exact N.first) p7 ai N.one q3 (by rw[uR];exact r1);rw[show Value.slice (some ⟨en.g,0,none⟩) n l=sv by rw[qY];simp]at hrun;rw[uR]at hrun
 have jr:(arr.toList.take (n*es)++news++arr.toList.drop (n*es+news.length)).toArray.size=arr.size:=by
  simp only[ye,zh,zq,zD,Array.length_toList];omega
 have hnew:=setRow_heap w en.g arr (arr.toList.take (n*es)++news++arr.toList.drop (n*es+news.length)).toArray T fz p7;refine⟨_,_,en,hrun,?_,p1,fun k hk=>setRow_other w en.g k _ hk,setRow_size _ _ _,rfl,rfl,rfl,zo _, .inr ⟨en,_,T,fz,p1,hnew,fun _=>⟨by rw[jr];exact ai,by rw[jr];exact aj,by rw[zh,sr,q1];omega,jW⟩,fun k q hk=>?_⟩⟩
 .simp only[Den];right
  exact⟨en,0,p1,by simp,by simpa using q3,by simpa using p4,fun _=>by simp[jW]⟩
 .rw[jW]
  exact r2 k q (by
   rw[xT,Nat.min_self];rw[zn (ze.1 hk).1]
   exact hk)
theorem TP{T:wU}{e:TypeId}{s:SV}{es:Nat}{rows:List (List SV)}(h:fJ T e s= .uA es rows):s= .val (.slice none 0 0)/\rows=[]:=by
 unfold fJ at h;split at h
 .split at h
  injection h with _ h;exact⟨rfl,h.symm⟩;cases h
 cases h
theorem TQ{T:wU}{e:TypeId}{s:SV}{v:Value}(h:Den K s v):Den K (ZS (fJ T e s)) v:=by
 unfold fJ;split
 .split
  simp only[ZS,Den];exact h
 exact h
theorem vR.sw(H:vR M K w O nx){i es n:Nat}{rs:List (List DC)}{xs:List (List SV)}{T:wU}{e:TypeId}(hi:u5 i O=some (.deep false es rs))(hn:n<=rs.length){w':World}{x:Option wZ}(G:Grown K w i es n w' x)
 (hs:uM (K++ [x]) w' true (.loc nx) es ((Zy rs).take n++xs)):vR M (K++ [x]) w' ((nx, .deep false es (rs.take n++xs.map fun row=>row.map (fJ T e)))::uU i O) (nx+1):=by
 have hpre:K<+:K++ [x]:=zz _ _;obtain⟨u9,_⟩:=H.own.1 i _ hi;obtain⟨_,hD,_⟩:=u9.wJ;have ak:=ZO H.len x
 have kids:∀{e1 o a b y},x=some e1->w'.heap[e1.g]?=some o->Ye (rs.take n++xs.map fun row=>row.map (fJ T e)) a b=some y->
  (∃e0 o0,K[i]?=some (some e0)/\w.heap[e0.g]?=some o0/\Ye rs a b=some y/\ZI o es a b=ZI o0 es a b)\/(y.2=[]/\ZI o es a b=some (.slice none 0 0)):=by
  intro e1 o a b y hx ho hk;subst hx;obtain⟨y1,y2⟩:=y;obtain⟨row,k1,k2⟩:=uk.1 hk;rcases hs with⟨h1,_⟩|⟨e',arr,T',fz,h1,h2,h3,h4⟩
  rw[ak]at h1;cases h1;rw[ak]at h1;injection h1 with h1;injection h1 with h1;subst h1
  rw[h2]at ho;injection ho with ho;subst ho
  obtain⟨_,_,_,hb0⟩:=h3 rfl;rw[hb0]at h4;by_cases ha:a<n
  .have lT:(rs.take n).length=n:=by rw[zq];omega
   rw[zn (by omega),zS,zf ha]at k1
   have hfl:((Zy rs).take n++xs)[a]?=some (row.map ZS):=by
    rw[zn (by rw[zq,Ya];omega),zS,zf ha,Y9,k1];rfl
   have kP:=(ze.1 k2).1;have hle:=(h4 a _ hfl).1;rw[zy]at hle;obtain⟨e0,o0,g1,g2,g3⟩:=G.cells _ _ a b rfl h2 ha (by omega);exact .inl ⟨e0,o0,g1,g2,uk.2 ⟨row,k1,k2⟩,g3⟩
  .have lT:(rs.take n).length=n:=by rw[zq];omega
   rw[zw (by omega),lT,z6]at k1;obtain⟨dD,k3,rfl⟩:=zC.1 k1;rw[z6]at k2;obtain⟨s,k4,k5⟩:=zC.1 k2;obtain⟨rfl,rfl⟩:=TP k5
   have hfl:((Zy rs).take n++xs)[a]?=some dD:=by
    have ES:((Zy rs).take n).length=n:=by rw[zq,Ya];omega
    rw[zw (by omega),ES];exact k3
   obtain⟨v,q1,_,q2⟩:=(h4 a _ hfl).2 b _ k4;rw[zx]at q1;have q2:v= .slice none 0 0:=q2.1;exact .inr ⟨rfl,by rw[<-q2];exact q1⟩
 have pn:∀{e0 o0 a b y v k},K[i]?=some (some e0)->w.heap[e0.g]?=some o0->Ye rs a b=some y->ZI o0 es a b=some v->v.ownBlock=some k->k<w.heap.size/\k≠e0.g/\vY K w (.loc i) (.deep false es rs) k:=by
  intro e0 o0 a b y v k g1 g2 g3 g4 g5;obtain⟨y1,y2⟩:=y;obtain⟨v',f1,f2,f3⟩:=((hD e0 g1).2 o0 g2).sat a b _ _ g3;rw[g4]at f1;injection f1 with f1;subst f1
  have ff:vY K w (.loc i) (.deep false es rs) k:=⟨e0,g1, .inr (by simp only[uA];exact⟨o0,a,b,_,v,g2,g3,g4,g5⟩)⟩;exact⟨u9.uy ff,fun h=>f3 (h▸g5),ff⟩
 refine H.lR hi G ?_ fun k f=>?_
 .refine vT.qM (mp:=false) ?_ (fun h=>by cases h) fun e1 he=>?_
  .show uM _ _ _ _ _ _
   unfold uM at hs⊢
   have QB:∀(j:Nat) (row:List SV),(Zy (rs.take n++xs.map fun row=>row.map (fJ T e)))[j]?=some row->∃dG,((Zy rs).take n++xs)[j]?=some dG/\(row=dG\/row=dG.map fun s=>ZS (fJ T e s)):=by
    intro j row hj;unfold Zy at hj⊢;rw[yz,xQ]at hj;by_cases hjl:j< ((rs.map fun r=>r.map ZS).take n).length
    .rw[zn hjl]at hj⊢;exact⟨row,hj, .inl rfl⟩
    .rw[zw (by omega)]at hj⊢;rw[xo,z6]at hj;obtain⟨dG,q1,q2⟩:=zC.1 hj;refine⟨dG,q1, .inr ?_⟩;rw[<-q2];simp[Function.comp]
   have mz:(Zy (rs.take n++xs.map fun row=>row.map (fJ T e))).length=((Zy rs).take n++xs).length:=by simp[Zy]
   rcases hs with⟨h1,h2⟩|⟨e',arr,T',fz,h1,h2,h3,h4⟩
   exact .inl ⟨h1,zM.1 (by rw[mz,h2];rfl)⟩
   .refine .inr ⟨e',arr,T',fz,h1,h2,fun h=>by rw[mz];exact h3 h,fun j row hj=>?_⟩;obtain⟨dG,q1,q2⟩:=QB j row hj;obtain⟨q3,q4⟩:=h4 j dG q1;rcases q2 with rfl|rfl
    exact⟨q3,q4⟩
    .refine⟨by rw[zy];exact q3,fun c sv hc=>?_⟩;rw[z6]at hc;obtain⟨s,q5,rfl⟩:=zC.1 hc;obtain⟨v,q6,q7,q8⟩:=q4 c s q5;exact⟨v,q6,q7,TQ q8⟩
  .rw[ak]at he;injection he with he;obtain⟨hb0,kP⟩:=G.blk e1 he;refine⟨hb0,fun o ho=>⟨fun a b es' rows hk=>?_,fun a b a' b' y y' v v' k k1 k2 k3 k4 k5 k6=>?_⟩⟩
   .rcases kids he ho hk with⟨e0,o0,g1,g2,g3,g4⟩|⟨g1,g2⟩
    .obtain⟨v,f1,f2,f3⟩:=((hD e0 g1).2 o0 g2).sat a b _ _ g3;refine⟨v,g4.trans f1,(f2.keep fun k hk=>?_).mono hpre,fun h=>?_⟩
     .obtain⟨l1,l2,_⟩:=pn g1 g2 g3 f1 hk;exact G.hold k l1 fun e2 h2=>by rw[g1]at h2;injection h2 with h2;injection h2 with h2;subst h2;exact l2.symm
     .obtain⟨l1,l2,_⟩:=pn g1 g2 g3 f1 h;rcases kP with kP|kP
      rw[g1]at kP;injection kP with kP;injection kP with kP;subst kP;exact l2 rfl
      omega
    .simp only at g1;subst g1;exact⟨_,g2, .inl ⟨rfl,rfl⟩,by simp[Value.ownBlock]⟩
   .rcases kids he ho k1 with⟨e0,o0,g1,g2,g3,g4⟩|⟨_,g2⟩
    .rcases kids he ho k2 with⟨e0',o0',iG,iH,TR,TS⟩|⟨_,iH⟩
     .rw[g1]at iG;injection iG with iG;injection iG with iG;subst iG
      rw[g2]at iH;injection iH with iH;subst iH
      exact((hD e0 g1).2 o0 g2).ne a b a' b' y y' v v' k g3 TR (g4▸k3) (TS▸k4) k5 k6
     rw[iH]at k4;injection k4 with k4;subst k4;cases k6
    rw[g2]at k3;injection k3 with k3;subst k3;cases k5
 .obtain⟨e1,f1,f2⟩:=f;rw[ak]at f1;injection f1 with f1;rcases f2 with rfl|f2
  .rcases(G.blk e1 f1).2 with h|h
   exact .inl (vY.own h);exact .inr (by omega)
  .simp only[uA]at f2;obtain⟨o,a,b,y,v,f3,f4,f5,f6⟩:=f2;rcases kids f1 f3 f4 with⟨e0,o0,g1,g2,g3,g4⟩|⟨_,g2⟩
   exact .inl (pn g1 g2 g3 (g4▸f5) f6).2.2;rw[g2]at f5;injection f5 with f5;subst f5;cases f6
theorem TT(A:At M K w O nx ρ lk)(args:Array Operand)(ts:Array TypeId)(hr:(w5 M.C lk O nx (.call ⟨.builtin .append,args,ts⟩)).ok O nx v O' vW):Y7 M K w ⟨dst, .call ⟨.builtin .append,args,ts⟩,ty,pos,af,gd⟩ ρ v O' vW:=by
 simp only[w5,Vt,AP]at hr;split at hr
 case h_2=>exact hr.elim
 rename_i s x ha;obtain rfl:args= #[s,x]:=by apply yD;simpa using ha
 split at hr
 case h_2=>exact hr.elim
 rename_i t u htu;obtain rfl:ts= #[t,u]:=by apply yD;simpa using htu
 split at hr
 case h_2=>exact hr.elim
 rename_i sv hs;split at hr
 case h_2=>exact hr.elim
 rename_i P5 hx;have cw:=A.L _ _ hs;have aq:=A.L _ _ hx
 have fin:∀{z:Value} {w':World},(Builtin.append_ #[t,u] ty #[ρ s,ρ x]).run M.P w= .ok z w'->lN M.P ⟨dst, .call ⟨.builtin .append, #[s,x], #[t,u]⟩,ty,pos,af,gd⟩ ρ w z w':=by
  intro z w' h;exact .inl (by simp[execOp,resolve,invoke,builtin,h])
 have main:((∃q,M.P.underlying u=some (.slice q))\/M.P.underlying u=some .string)->(GH M.C O nx t sv P5).ok O nx v O' vW->Y7 M K w ⟨dst, .call ⟨.builtin .append, #[s,x], #[t,u]⟩,ty,pos,af,gd⟩ ρ v O' vW:=by
  intro hu hr;unfold GH at hr;split at hr
  case h_2=>exact hr.elim
  rename_i e hst;obtain⟨d,hd,hm⟩:=A.T.qC t (by rw[hst];simp);rw[hst]at hm;simp only[qx]at hm;subst hm;split at hr
  exact hr.elim;rename_i c cs hz;have hsh:M.C.T.sh e≠ .other:=A.T.lM e (by rw[hz];simp);obtain⟨ie,z,h1,h2,h3,h4,h5,_⟩:=A.T.zero e hsh (by rw[hz];simp);rw[hz]at h3 h5;obtain⟨ED,hie,uR,fM⟩:=A.T.info e hsh;rw[h1]at hie;injection hie with hie;subst hie
  have h3:=vV.mono (η':=K) xy h3;have hzl:z.cells.size=M.C.T.size e:=by have:=ZU h3;rw[h5]at this;simpa using this
  split at hr
  exact hr.elim;rename_i xs m hrows
  have jq:∀{base:Option Addr} {n cap:Nat} {olds news:List Value} {rs:List (List SV)},ρ s= .slice base n cap->pg M.P w K (M.C.T.size e) xs m (ρ x) news->cap<n+m->n+m<=9223372036854775807->min (2*(n+m)) ((n+m)+(n+m)/4+192)*M.C.T.bytes e<=281474976710656->
   (∀w',w'.heap=w.heap->(Builtin.firstCells (M.C.T.size e) n (.slice base n cap)).run M.P w'= .ok ⟨olds⟩ w')->uh K (M.C.T.size e) rs olds->(∀u∈olds,u.oneCell'=true)->rs.length=n->xs.length=m->
   v= .sl (.loc nx) 0 (M.C.T.size e) (n+m) none->O'=(nx, .rows (M.C.T.size e) (rs++xs))::O->vW=nx+1->Y7 M K w ⟨dst, .call ⟨.builtin .append, #[s,x], #[t,u]⟩,ty,pos,af,gd⟩ ρ v O' vW:=by
   intro base n cap olds news rs qY N hroom h63 hby ho sq QI hrl hxl e1 e2 e3;subst e1 e2 e3;obtain⟨z',w',cap',arr,T,fz,p1,p2,⟨p3,p4,p5,p6⟩,p7,p8,_⟩:=OZ (ty:=ty) A.H.len hd hu h1 h2 uR fM hzl qY N hroom h63 hby ho sq QI hrl hxl;exact⟨_,_,_,fin p1,zz _ _,vR.alloc A.H p2 p3 p4 p5 0 _ p8 p6,p7,fun _ h=>absurd h (by simp)⟩
  split at hr
  .obtain⟨⟨q1,q2,q3⟩,e1,e2,e3⟩:=hr;have qY:ρ s= .slice none 0 0:=And.left cw;obtain⟨news,N⟩:=Xi A aq hrows q1;by_cases hm0:m=0
   .subst hm0;have hx0:xs=[]:=zM.1 q1;have hn0:news=[]:=by apply zM.1;rw[N.len];omega
    subst hx0 hn0 e1 e2 e3;have hrun:=OY (P:=M.P) (ty:=ty) (w:=w) (i:=ie) hd hu h1 N.lenOf (by rw[uR];exact N.first);rw[<-qY]at hrun;refine⟨_,w,K++ [none],fin hrun,zz _ _,?_,?_,fun _ h=>absurd h (by simp)⟩;exact A.H.name none (Or.inl ⟨ZO A.H.len _,rfl⟩) (fun e h=>by cases h) (fun e h=>by cases h);exact Or.inl ⟨ZO A.H.len _,qY,rfl⟩
   refine jq (rs:=[]) (olds:=[]) qY N (by omega) (by omega) (OV (by simpa using q3)) (fun w' _=>rfl) (by simp[uh]) (by simp) rfl q1 (by simpa using e1) (by simpa using e2) e3
  .rename_i i es n _;split at hr
   case h_3=>exact hr.elim
   .rename_i es' rs hh;split at hr
    case h_2=>exact hr.elim
    rename_i wF;have wF:=Zr wF;subst wF;split at hr
    case h_2=>exact hr.elim
    rename_i fO;have fO:=Zr fO;subst fO;obtain⟨⟨q1,q2,q3,q4⟩,e1,e2,e3⟩:=hr;obtain⟨news,N⟩:=Xi A aq hrows q1;obtain⟨z',w',x',hrun,cz,jM,G⟩:=P3 (ty:=ty) A.H.len hd hu h1 h2 uR fM hzl cw (A.H.own.1 i _ hh).1 N q1 q2 q3 q4;subst e1 e2 e3;refine⟨_,_,_,fin hrun,zz _ _,A.H.lR hh G jM fun k f=>?_,cz,fun _ h=>absurd h (by simp)⟩;obtain⟨e1,f1,f2⟩:=f;rw[ZO A.H.len]at f1;injection f1 with f1;rcases f2 with rfl|f2
    .rcases(G.blk e1 f1).2 with h|h
     exact .inl (vY.own h);exact .inr (by omega)
    exact f2.elim
   .rename_i es' rs hh;split at hr
    case h_2=>exact hr.elim
    rename_i wF;have wF:=Zr wF;subst wF;split at hr
    case h_2=>exact hr.elim
    rename_i fO;have fO:=Zr fO;subst fO;obtain⟨⟨q1,q2,q3,q4⟩,e1,e2,e3⟩:=hr;obtain⟨news,N⟩:=Xi A aq hrows q1;have u9:=(A.H.own.1 i _ hh).1;simp only[vT]at u9;obtain⟨z',w',x',hrun,cz,jM,G⟩:=P3 (ty:=ty) A.H.len hd hu h1 h2 uR fM hzl cw u9.1 N q1 (by rw[Ya];exact q2) q3 q4;subst e1 e2 e3;exact⟨_,_,_,fin hrun,zz _ _,A.H.sw hh q2 G jM,cz,fun _ h=>absurd h (by simp)⟩
  .rename_i b r es n l _;split at hr
   case h_2 TV=>
    unfold Ag at hr;split at hr
    case h_2=>exact hr.elim
    rename_i i _;split at hr
    case h_2=>exact hr.elim
    rename_i es' ds hh;split at hr
    case h_2=>exact hr.elim
    rename_i wF;have wF:=Zr wF;subst wF;split at hr
    case h_2=>exact hr.elim
    rename_i fO;have fO:=Zr fO;subst fO;obtain⟨⟨q1,q2,q3,q4,q5,q6⟩,hr⟩:=hr;obtain⟨news,N⟩:=Xi A aq hrows q1;have u9:=(A.H.own.1 i _ hh).1;simp only[vT]at u9;have pq:=u9.1;rcases zY l (n+m)with hlt|hlt
    .simp only[ux.ok,yq hlt,yJ]at hr;obtain⟨e1,e2,e3⟩:=hr
     obtain⟨en,o,g1,qY,g2⟩:∃en o,K[i]?=some (some en)/\ρ s= .slice (some ⟨en.g,o,none⟩) n l/\n<=l:=by
      simp only[Den,Env.get]at cw;rcases cw with⟨_,_,h0⟩|⟨en,o,g1,g2,g3,_⟩
      omega
      .simp only[Option.getD_some,Nat.sub_zero,zx]at g2 g3;exact⟨en,o,g1,g2,g3⟩
     have A':At M K w (uI i (.rows (M.C.T.size e) (Zy ds)) O) nx ρ lk:=⟨A.H.bF hh g1 (fun _ _=>rfl) rfl rfl rfl rfl pq (zo _) (fun k f=>by
      rcases f.of (e:=en) (show K.get (.loc i)=some (some en)from g1)with h|h
      exact h▸vY.own g1
      exact h.elim),A.T,A.L⟩
     have hR:nM M.C (uI i (.rows (M.C.T.size e) (Zy ds)) O) (M.C.T.size e) (.sl (.loc i) 0 (M.C.T.size e) n (some l))=some ((Zy ds).take n,n):=by
      simp only[nM,Yn,Y1 i _ O i (by rw[hh];rfl),zf,Nat.beq_refl,yN]
     have au:((Zy ds).take n).length=n:=by rw[zq,Ya];omega
     obtain⟨olds,N2⟩:=Xi A' cw hR au;refine jq (rs:=(Zy ds).take n) (olds:=olds) qY N hlt q5 q6 (fun w' hw'=>?_) N2.den N2.one au q1 e1 e2 e3;rw[<-qY];exact N2.first w' hw'
    .simp only[ux.ok,y5 (Nat.not_lt.2 hlt),xZ,xG]at hr;obtain⟨e1,e2,e3⟩:=hr;obtain⟨z',w',en,hrun,cz,g1,g2,g3,g4,g5,g6,g7,g8⟩:=TN (ty:=ty) hd hu h1 uR cw pq N q1 q2 (by rw[Ya];exact q4) (by omega);subst e1 e2 e3
     have H1:=A.H.bF (h:= .rows (M.C.T.size e) ((Zy ds).take n++xs)) hh g1 g2 g3 g4 g5 g6 g8 g7 fun k f=>by
      rcases f.of (e:=en) (show K.get (.loc i)=some (some en)from g1)with h|h
      exact h▸vY.own g1;exact h.elim
     exact⟨_,w',K++ [none],fin hrun,zz _ _,H1.name none (Or.inl ⟨ZO A.H.len _,rfl⟩) (fun e h=>by cases h) (fun e h=>by cases h),cz.mono (zz _ _),fun _ h=>absurd h (by simp)⟩
   rename_i ys n' jM;obtain⟨⟨q0,q1,q2,q3,q4,q5⟩,e1,e2,e3⟩:=hr
   have hnn:n'=n:=by
    simp only[nM]at jM;repeat' split at jM
    all_goals first|(injection jM with jM;injection jM with _ jM;exact jM.symm)|cases jM
   subst hnn;obtain⟨news,N⟩:=Xi A aq hrows q3;obtain⟨olds,N2⟩:=Xi A cw jM q2
   obtain⟨base,qY⟩:∃base,ρ s= .slice base n' n':=by
    simp only[Den]at cw;rcases cw with⟨_,h,h0⟩|⟨en,o,_,h,_⟩
    subst h0;exact⟨none,h⟩
    .rw[q0,Option.getD_some,Nat.add_sub_cancel_left]at h;exact⟨_,h⟩
   refine jq (rs:=ys) (olds:=olds) qY N (by omega) q4 q5 (fun w' hw'=>?_) N2.den N2.one q2 q3 e1 e2 e3;rw[<-qY];exact N2.first w' hw'
  exact hr.elim
 split at hr
 .rename_i q hsu;obtain⟨d,hd,hm⟩:=A.T.qC u (by rw[hsu];simp);rw[hsu]at hm;simp only[qx]at hm;subst hm;exact main (.inl ⟨_,hd⟩) hr
 .rename_i hsu;obtain⟨d,hd,hm⟩:=A.T.qC u (by rw[hsu];simp);rw[hsu]at hm;simp only[qx]at hm;subst hm;exact main (.inr hd) hr
 .rename_i k hsu;obtain⟨d,ep,hm⟩:=A.T.qC u (by rw[hsu];simp);rw[hsu]at hm;simp only[qx]at hm;subst hm;split at hr
  case h_2=>exact hr.elim
  have qY:ρ s= .slice none 0 0:=And.left cw;unfold Ah at hr;split at hr
  case h_2=>exact hr.elim
  rename_i e hst;obtain⟨d,hd,hm⟩:=A.T.qC t (by rw[hst];simp);rw[hst]at hm;simp only[qx]at hm;subst hm;split at hr
  exact hr.elim;rename_i c cs hz;have hsh:M.C.T.sh e≠ .other:=A.T.lM e (by rw[hz];simp);obtain⟨ie,z,h1,h2,h3,h4,h5,_⟩:=A.T.zero e hsh (by rw[hz];simp);rw[hz]at h3 h5;obtain⟨ED,hie,uR,fM⟩:=A.T.info e hsh;rw[h1]at hie;injection hie with hie;subst hie
  have h3:=vV.mono (η':=K) xy h3;have hzl:z.cells.size=M.C.T.size e:=by have:=ZU h3;rw[h5]at this;simpa using this
  split at hr
  case h_2=>exact hr.elim
  rename_i kk n;obtain⟨⟨q1,q2,q3⟩,e1,e2,e3⟩:=hr;have uv:=V5 aq;subst e1 e2 e3;by_cases hn0:n=0
  .subst hn0;have hrun:=TL (P:=M.P) (ty:=ty) (w:=w) (kk:=kk) hd ep h1;rw[<-qY,<-uv]at hrun;refine⟨_,w,K++ [none],fin hrun,zz _ _,?_,?_,fun _ h=>absurd h (by simp)⟩;exact A.H.name none (Or.inl ⟨ZO A.H.len _,rfl⟩) (fun e h=>by cases h) (fun e h=>by cases h);exact Or.inl ⟨ZO A.H.len _,qY,rfl⟩
  .have hpos:0<M.C.T.size e:=by rw[<-h5];simp
   have hrun:=TK (P:=M.P) (ty:=ty) (w:=w) (kk:=kk) (n:=n) hd ep h1 h2 (by rw[uR];exact hpos) (by omega) q2 (by rw[fM];exact q3);rw[<-qY,<-uv]at hrun;have hge:=grownCap_ge w n.toNat 0 e
   have ET:(Builtin.zeroCells z.cells n.toNat).toList=XP z.cells.toList n.toNat:=by
    unfold Builtin.zeroCells;exact U9 z.cells n.toNat _ rfl
   have nP:=EP h3 (by simpa using hzl) n.toNat;have hone:=EC h4 n.toNat;have ER:=X7 nP hone;have hlen:=V7 nP;rw[yK]at hlen;refine⟨_,_,K++ [some ⟨w.heap.size,0,grownCap w n.toNat 0 e⟩],fin hrun,zz _ _,?_,UN A.H.len hge,fun _ h=>absurd h (by simp)⟩;rw[ET];refine vR.alloc (w':=w.drew.alloc (.cells ⟨XP z.cells.toList n.toNat++(Builtin.zeroCells z.cells (grownCap w n.toNat 0 e-n.toNat)).toList⟩ e)) A.H rfl rfl rfl rfl 0 _ ?_;simp only[vT];right
   have oU:(XP z.cells.toList n.toNat++(Builtin.zeroCells z.cells (grownCap w n.toNat 0 e-n.toNat)).toList).length=grownCap w n.toNat 0 e*M.C.T.size e:=by
    rw[zh,hlen,Array.length_toList,size_zeroCells,hzl,<-xK];congr 1;omega
   refine⟨_,_,e,(0,0),ZO A.H.len _,Yx (w:=w) (w':=w.drew.alloc _) rfl,fun _=>⟨Wf _,oU,?_,rfl⟩,?_⟩;rw[yK];exact hge
   .intro k row hk;obtain⟨p1,p2⟩:=ER k row hk;refine⟨p1,fun j mC hj=>?_⟩;obtain⟨y,p3,p4,p5⟩:=p2 j mC hj;refine⟨y,?_,p4,p5.mono (zz _ _)⟩;have hlt:=(zA.1 p3).1;simp only[yX];rw[zn (by simpa using hlt)];simpa using p3
 exact hr.elim
end
end Go.Sx
