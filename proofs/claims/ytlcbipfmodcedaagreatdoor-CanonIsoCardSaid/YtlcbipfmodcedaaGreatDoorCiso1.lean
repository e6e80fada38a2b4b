/- Part 1: SxOpsI. Conditions: as each part says. -/
import Derived.Laws.IdiomStrings
import Derived.Test.YtlcbipfmodcedaaGreatDoorCiso0
set_option linter.unusedVariables false
set_option linter.unusedSimpArgs false
namespace Go.Sx
open Go
section
variable {M:Mx}{K:Env}{w:World}{O:u0}{nx:Nat}{ρ:Operand->Value}{lk:Operand->Option SV}{v:SV}{O':u0}{vZ:Nat}{dst:Option Tmp}{ty:TypeId}{pos:String}{af:Array Edge}{gd:Option (Nat×Bool)}
theorem Pv{w w':World}(h:w'.heap=w.heap)(a:Addr):w'.cell? a=w.cell? a:=by unfold World.cell?;rw[h]
structure pF(P:Program)(w:World)(K:Env)(es:Nat)(xs:List (List SV))(m:Nat)(xv:Value)(news:List Value):Prop where
 len:news.length=m*es
 one:∀u∈news,u.oneCell'=true
 den:uk K es xs news
 lenOf:∀w',(Builtin.lenOf xv).run P w'= .ok m w'
 first:∀w',w'.heap=w.heap->(Builtin.firstCells es m xv).run P w'= .ok ⟨news⟩ w'
theorem X9(A:At M K w O nx ρ lk){es:Nat}{x:SV}{xv:Value}{xs:List (List SV)}{m:Nat}(hd:Den K x xv)(h:mb M.C O es x=some (xs,m))(hl:xs.length=m):∃news,pF M.P w K es xs m xv news:=by
 unfold mb at h;split at h
 .rename_i b r es' len lim;split at h
  case h_2=>cases h
  rename_i fF rs hh;split at h
  case h_2=>cases h
  rename_i h1;split at h
  case h_2=>cases h
  rename_i h2;have h1:=Zq h1;have h2:=Zq h2;subst h1 h2;simp only[zh,yF]at h;obtain⟨rfl,rfl⟩:=h;have uc:=A.H.look hh;simp only[vV]at uc;simp only[Den]at hd;rcases hd with⟨q1,rfl,q3⟩|⟨en,o,q1,rfl,q3,q4,q5⟩
  .subst q3;refine⟨[],by simp,by simp,by simp[uk],fun w'=>rfl,fun w' _=>rfl⟩
  .by_cases h0:len=0
   .subst h0;refine⟨[],by simp,by simp,by simp[uk],fun w'=>rfl,fun w' _=>?_⟩;simp[Builtin.firstCells,loadCells,loadCellsFrom]
   .rcases uc with⟨q6,rfl⟩|⟨eP,arr,T,fz,q6,q7,_,q8⟩
    rw[q1]at q6;cases q6;rw[q1]at q6;injection q6 with q6;injection q6 with q6;subst q6
    have q8':∀(i:Nat) (row:List SV),((rs.drop r).take len)[i]?=some row->row.length=es/\um K arr (en.base+r*es+i*es) row:=by
     intro i row hi;rw[y4]at hi;split at hi
     .rw[ye]at hi;obtain⟨p1,p2⟩:=q8 _ row hi;refine⟨p1,?_⟩;rw[show en.base+r*es+i*es=en.base+(r+i)*es by rw[xB];omega];exact p2
     cases hi
    obtain⟨p1,p2,p3⟩:=De q8';rw[hl]at p1 p2 p3;have ho:=q5 (by omega);subst ho;refine⟨_,p2,p3,p1,fun w'=>rfl,fun w' hw'=>?_⟩
    have hcell:∀j u,((arr.toList.drop (en.base+r*es)).take (len*es))[j]?=some u->w'.cell? ((⟨en.g,en.base+r*es,none⟩:Addr).add j)=some u:=by
     intro j u hj;rw[y4]at hj;split at hj
     .rw[ye]at hj;rw[Addr.add_lit,Pv hw'];simp only[World.cell?,q7];simpa using hj
     cases hj
    exact run_firstCells_some (P:=M.P) w' es len ⟨en.g,en.base+r*es,none⟩ len _ _ p2 hcell
 .simp only[zh,yF]at h;obtain⟨rfl,rfl⟩:=h;rename_i p;obtain⟨rfl,_⟩:xv= .slice p 0 0/\_:=hd;exact⟨[],by simp,by simp,by simp[uk],fun w'=>rfl,fun w' _=>by cases p<;>simp[Builtin.firstCells,loadCells,loadCellsFrom]⟩
 .rename_i s;split at h
  case h_2=>cases h
  rename_i h1;have h1:=Zq h1;subst h1;simp only[zh,yF]at h;obtain⟨rfl,rfl⟩:=h;have hd':=r7 hd;clear hd;subst hd';refine⟨s.map fun b=> .int .u8 (b.toNat:Int),by simp,?_,?_,fun w'=>?_,fun w' _=>?_⟩
  .intro u hu;obtain⟨b,_,rfl⟩:=zM.1 hu
   rfl
  .clear hl
   induction s with
   |nil=>simp[uk]
   |cons b s ih=>
    simp only[zL,uk];exact⟨[.int .u8 (b.toNat:Int)],_,rfl,rfl,by simp[bytesRow,vX,Den],ih⟩
  simp[Builtin.lenOf,Va]
  .have:(ByteArray.mk s.toArray).extract 0 s.length=⟨s.toArray⟩:=by rw[Vl];simp
   simp[Builtin.firstCells,this]
 cases h
theorem Pw{es:Nat}:∀{rs qs:List (List SV)} {us vs:List Value},uk K es rs us->uk K es qs vs->uk K es (rs++qs) (us++vs)
 | [],qs,us,vs,h,k=>by simp only[uk]at h;subst h;exact k
 |r::rs,qs,us,vs,h,k=>by
  simp only[uk]at h;obtain⟨a,b,rfl,h1,h2,h3⟩:=h;simp only[List.cons_append,uk,zR];exact⟨a,_,rfl,h1,h2,Pw h3 k⟩
theorem WY{arr:Array Value}{es r cap:Nat}{rs xs:List (List SV)}{us:List Value}(hsz:arr.size=cap*es)(Kc:r+xs.length<=cap)(hrr:r<=rs.length)
 (hr:∀(i:Nat) (row:List SV),rs[i]?=some row->row.length=es/\um K arr (0+i*es) row) (hd:uk K es xs us) (h1:∀u∈us,u.oneCell'=true):
 r*es+us.length<=arr.size/\
 ∀(i:Nat) (q:List SV),(rs.take r++xs++rs.drop (r+xs.length))[i]?=some q->q.length=es/\um K (arr.toList.take (r*es)++us++arr.toList.drop (r*es+us.length)).toArray (0+i*es) q:=by
 have hl:=JB hd
 have hfit:r*es+us.length<=arr.size:=by
  have:(r+xs.length)*es<=cap*es:=yl _ Kc;rw[xB]at this;omega
 refine⟨hfit,?_⟩;intro i q hi;have ht:(rs.take r).length=r:=by rw[zA];omega
 rw[zR]at hi;by_cases hir:i<r
 .rw[zu (by omega),y4,z8 hir]at hi;obtain⟨p1,p2⟩:=hr i q hi;refine⟨p1,Dl (o:=0+i*es) p2 p1 hfit (.inl ?_)⟩;have:(i+1)*es<=r*es:=yl _ hir;rw[yB]at this;omega
 .rw[zz (by omega),ht]at hi;by_cases bU:i-r<xs.length
  .rw[zu bU]at hi;obtain⟨p1,p2⟩:=X2 hd h1 (i-r) q hi;refine⟨p1,fun j sv hj=>?_⟩;obtain⟨u,p3,p4,p5⟩:=p2 j sv hj;refine⟨u,?_,p4,p5⟩;have hlt:=(zC.1 p3).1;have hut:(arr.toList.take (r*es)).length=r*es:=by rw[zA];simp;omega
   have hi':i*es=r*es+(i-r)*es:=by rw[<-xB];congr 1;omega
   simp only[zR,yJ];rw[zz (by omega),hut,zu (by simp at hlt;omega)];rw[show 0+i*es+j-r*es=0+(i-r)*es+j by omega];simpa using p3
  .rw[zz (by omega),ye]at hi;rw[show r+xs.length+(i-r-xs.length)=i by omega]at hi;obtain⟨p1,p2⟩:=hr i q hi;refine⟨p1,Dl (o:=0+i*es) p2 p1 hfit (.inr ?_)⟩;have:(r+xs.length)*es<=i*es:=yl _ (by omega);rw[xB]at this;omega
theorem ZaT{need old:Nat}(h:old<need):Builtin.nextslicecap need old<=need+need/4+192:=by
 unfold Builtin.nextslicecap;split
 omega
 .split
  omega
  .rw[growBy_four]
   (repeat' split)<;>omega
theorem WZ{need old bytes:Nat}(h:old<need)(hb:min (2*need) (need+need/4+192)*bytes<=281474976710656):Builtin.nextslicecap need old*bytes<=281474976710656:=
 zK (yl _ (Nat.le_min.2 ⟨nextslicecap_le h,ZaT h⟩)) hb
theorem Px{k b:Nat}(h:k*b<=140737488355328):min (2*k) (k+k/4+192)*b<=281474976710656:=
 zK (yl _ (Nat.min_le_left _ _)) (by rw[Nat.mul_assoc];omega)
theorem Z8j{P:Program}{w:World}{t u e:TypeId}{i:TypeInfo}{z:Value}{ty:TypeId}{base:Option Addr}{n cap m:Nat}{xv:Value}{olds news:List Value}(ht:P.underlying t=some (.slice e))(hu:(∃q,P.underlying u=some (.slice q))\/P.underlying u=some .string)(hi:P.info? e=some i)(hz:i.zero=some z)
 (hn:∀w',(Builtin.lenOf xv).run P w'= .ok m w') (hf:∀w',w'.heap=w.heap->(Builtin.firstCells i.size m xv).run P w'= .ok ⟨news⟩ w') (ho:∀w',w'.heap=w.heap->(Builtin.firstCells i.size n (.slice base n cap)).run P w'= .ok ⟨olds⟩ w')
 (hroom:cap<n+m) (h63:n+m<=9223372036854775807) (hbytes:min (2*(n+m)) ((n+m)+(n+m)/4+192)*i.bytes<=281474976710656):
 (Builtin.append_ #[t,u] ty #[.slice base n cap,xv]).run P w= .ok (.slice (some ⟨w.heap.size,0,none⟩) (n+m) (grownCap w (n+m) cap e))
   (w.drew.alloc (.cells ⟨olds++news++(Builtin.zeroCells z.cells (grownCap w (n+m) cap e-(n+m))).toList⟩ e)):=by
 have hcap:=WZ hroom hbytes;have h1:¬(n+m<=cap):=by omega
 have h2:¬(9223372036854775807< ((n:Int)+(m:Int))):=by omega
 have h3:¬(281474976710656<Builtin.nextslicecap (n+m) cap*i.bytes):=by omega
 have kU:=hf w.drew rfl;have hd2:=ho w.drew rfl
 have kK:(Array.mk olds++Array.mk news++Builtin.zeroCells z.cells (grownCap w (n+m) cap e-(n+m)))=⟨olds++news++(Builtin.zeroCells z.cells (grownCap w (n+m) cap e-(n+m))).toList⟩:=by
  apply yC;simp
 have Py:(choose (.appendCap (n+m) cap e)).run P w= .ok (grownCap w (n+m) cap e) w.drew:=by
  simp[grownCap,Question.forced]
 rw[<-kK];rcases hu with⟨q,hu⟩|hu
 .simp[Builtin.append_,Z5 ht,Z5 hu,Zr hi,UF hi,XH hi hz,hn,h1,h2,h3,kU,hd2,newRow,Question.forced,grownCap];try(congr 2;apply yC;simp)
 .simp[Builtin.append_,Z5 ht,Z5 hu,Zr hi,UF hi,XH hi hz,hn,h1,h2,h3,kU,hd2,newRow,Question.forced,grownCap];try(congr 2;apply yC;simp)
theorem Pz{P:Program}{w:World}{t u e:TypeId}{i:TypeInfo}{ty:TypeId}{g n cap m:Nat}{arr:Array Value}{tt:TypeId}{fz:Nat×Nat}{xv:Value}{news:List Value}(ht:P.underlying t=some (.slice e))(hu:(∃q,P.underlying u=some (.slice q))\/P.underlying u=some .string)(hi:P.info? e=some i)
 (hn:∀w',(Builtin.lenOf xv).run P w'= .ok m w') (hf:∀w',w'.heap=w.heap->(Builtin.firstCells i.size m xv).run P w'= .ok ⟨news⟩ w')
 (hg:w.heap[g]?=some (.cells arr tt fz)) (huf:JW arr.size fz) (h1:∀u∈news,u.oneCell'=true) (hroom:n+m<=cap) (hfit:n*i.size+news.length<=arr.size):
 (Builtin.append_ #[t,u] ty #[.slice (some ⟨g,0,none⟩) n cap,xv]).run P w= .ok (.slice (some ⟨g,0,none⟩) (n+m) cap) (w.setRow g (arr.toList.take (n*i.size)++news++arr.toList.drop (n*i.size+news.length)).toArray):=by
 have kU:=hf w rfl;have hst:=YR (P:=P) g (n*i.size) tt fz news 0 arr w hg (by simpa using hfit) huf h1;simp only[Nat.add_zero]at hst;have mK:(⟨g,0,none⟩:Addr).add (n*i.size)=⟨g,n*i.size,none⟩:=by rw[Addr.add_lit,zw]
 rcases hu with⟨q,hu⟩|hu
 simp[Builtin.append_,Z5 ht,Z5 hu,Zr hi,hn,hroom,kU,mK,hst];simp[Builtin.append_,Z5 ht,Z5 hu,Zr hi,hn,hroom,kU,mK,hst]
theorem PA{P:Program}{w:World}{t u e:TypeId}{i:TypeInfo}{ty:TypeId}{xv:Value}(ht:P.underlying t=some (.slice e))(hu:(∃q,P.underlying u=some (.slice q))\/P.underlying u=some .string)(hi:P.info? e=some i)
 (hn:∀w',(Builtin.lenOf xv).run P w'= .ok 0 w') (hf:∀w',w'.heap=w.heap->(Builtin.firstCells i.size 0 xv).run P w'= .ok ⟨[]⟩ w'):
 (Builtin.append_ #[t,u] ty #[.slice none 0 0,xv]).run P w= .ok (.slice none 0 0) w:=by
 have kU:=hf w rfl;rcases hu with⟨q,hu⟩|hu
 simp[Builtin.append_,Z5 ht,Z5 hu,Zr hi,hn,kU];simp[Builtin.append_,Z5 ht,Z5 hu,Zr hi,hn,kU]
theorem Dx{K:Env}{es:Nat}{z:List SV}{zs:List Value}(hz:vX K z zs)(hl:zs.length=es):∀n,uk K es (List.replicate n z) (XD zs n)
 |0=>by simp[uk,XD]
 |n+1=>by
  rw[List.replicate_succ,Pf];simp only[uk];exact⟨zs,XD zs n,rfl,hl,hz,Dx hz hl n⟩
theorem Z6K{P:Program}{w:World}{t u e:TypeId}{i:TypeInfo}{z:Value}{ty:TypeId}{k kk:IntKind}{n:Int}(ht:P.underlying t=some (.slice e))(hu:P.underlying u=some (.int k))(hi:P.info? e=some i)(hz:i.zero=some z)(hs:0<i.size)
 (h0:0<n) (h63:n<=9223372036854775807) (hby:n.toNat*i.bytes<=140737488355328):
 (Builtin.append_ #[t,u] ty #[.slice none 0 0, .int kk n]).run P w= .ok (.slice (some ⟨w.heap.size,0,none⟩) n.toNat (grownCap w n.toNat 0 e))
   (w.drew.alloc (.cells ⟨(Builtin.zeroCells z.cells n.toNat).toList++(Builtin.zeroCells z.cells (grownCap w n.toNat 0 e-n.toNat)).toList⟩ e)):=by
 obtain⟨m,rfl⟩:∃m:Nat,n=(m:Int):=⟨n.toNat,by omega⟩;simp only[Int.toNat_natCast]at hby⊢;have hw:IntKind.i64.wrap (m:Int)=m:=IntWalk.i64_in _ ⟨by omega,by omega⟩;have hcap:=WZ (need:=m) (old:=0) (bytes:=i.bytes) (by omega) (Px hby);have h1:¬(281474976710656< (m:Int)*(i.bytes:Int)):=by rw[<-Int.natCast_mul];omega
 have h2:¬(281474976710656<Builtin.nextslicecap m 0*i.bytes):=by omega
 have h3:¬m=0:=by omega
 have h4:¬i.size=0:=by omega
 have h7:¬m*i.size=0:=Nat.mul_ne_zero h3 h4;have h5:¬(9223372036854775807< (m:Int)):=by omega
 have h6:¬((m:Int)<0):=by omega
 simp[Builtin.append_,Z5 ht,Z5 hu,Zr hi,UF hi,XH hi hz,asInt,asIntOf,hw,h1,h2,h3,h4,h5,h6,h7,newRow,Question.forced,grownCap,Builtin.firstCells];try(congr 2;apply yC;simp)
theorem Z5i{P:Program}{w:World}{t u e:TypeId}{i:TypeInfo}{ty:TypeId}{k kk:IntKind}(ht:P.underlying t=some (.slice e))(hu:P.underlying u=some (.int k))(hi:P.info? e=some i):
 (Builtin.append_ #[t,u] ty #[.slice none 0 0, .int kk 0]).run P w= .ok (.slice none 0 0) w:=by
 have hw:IntKind.i64.wrap 0=0:=IntWalk.i64_in _ ⟨by omega,by omega⟩;simp[Builtin.append_,Z5 ht,Z5 hu,Zr hi,UF hi,asInt,asIntOf,hw]
theorem PB{P:Program}{nx es:Nat}{t u e:TypeId}{ie:TypeInfo}{z sv xv:Value}{base:Option Addr}{n cap m b:Nat}{olds news:List Value}{rs xs:List (List SV)}(hη:K.length=nx)(hd:P.underlying t=some (.slice e))(hu:(∃q,P.underlying u=some (.slice q))\/P.underlying u=some .string)(h1:P.info? e=some ie)(h2:ie.zero=some z)(uV:ie.size=es)(fQ:ie.bytes=b)(hzl:z.cells.size=es)
 (kX:sv= .slice base n cap) (N:pF P w K es xs m xv news) (hroom:cap<n+m) (h63:n+m<=9223372036854775807) (hby:min (2*(n+m)) ((n+m)+(n+m)/4+192)*b<=281474976710656)
 (ho:∀w',w'.heap=w.heap->(Builtin.firstCells es n (.slice base n cap)).run P w'= .ok ⟨olds⟩ w') (cU:uk K es rs olds) (pG:∀u∈olds,u.oneCell'=true) (hrl:rs.length=n) (hxl:xs.length=m):
 ∃z' w' cap' arr T fz,(Builtin.append_ #[t,u] ty #[sv,xv]).run P w= .ok z' w'/\w'.heap=w.heap.push (.cells arr T fz)/\(w'.os=w.os/\w'.tape=w.tape/\w'.output=w.output/\w.drawn<=w'.drawn)/\
  Den (K++ [some ⟨w.heap.size,0,cap'⟩]) (.sl (.loc nx) 0 es (n+m) none) z'/\uQ (K++ [some ⟨w.heap.size,0,cap'⟩]) w' true (.loc nx) es (rs++xs)/\∀(k:Nat) u,olds[k]?=some u->arr[k]?=some u:=by
 have hge:=grownCap_ge w (n+m) cap e;have hrun:=Z8j (P:=P) (ty:=ty) (base:=base) (i:=ie) hd hu h1 h2 N.lenOf (by rw[uV];exact N.first) (by rw[uV];exact ho) hroom h63 (by rw[fQ];exact hby);rw[<-kX]at hrun;have mg:=Pw cU N.den;have hlen:=JB mg
 have hone:∀u∈olds++news,u.oneCell'=true:=by
  intro u hu;rcases zX.1 hu with hu|hu
  exact pG u hu;exact N.one u hu
 have Dy:=X2 mg hone;refine⟨_,_,grownCap w (n+m) cap e,_,e,(0,0),hrun,rfl,⟨rfl,rfl,rfl,xH _⟩,Ug hη hge,?_,fun k u hk=>?_⟩
 .right
  have pn:(olds++news++(Builtin.zeroCells z.cells (grownCap w (n+m) cap e-(n+m))).toList).length=grownCap w (n+m) cap e*es:=by
   rw[ze,hlen,ze,hrl,hxl,Array.length_toList,size_zeroCells,hzl,<-xB];congr 1;omega
  refine⟨_,_,e,(0,0),ZS hη _,Yo (w:=w) (w':=w.drew.alloc _) rfl,fun _=>⟨UG _,pn,?_,rfl⟩,?_⟩;rw[ze,hrl,hxl];exact hge
  .intro k row hk;obtain⟨p1,p2⟩:=Dy k row hk;refine⟨p1,fun j mN hj=>?_⟩;obtain⟨y,p3,p4,p5⟩:=p2 j mN hj;refine⟨y,?_,p4,p5.mono (zD _ _)⟩;have hlt:=(zC.1 p3).1;simp only[yJ];rw[zu (by simpa using hlt)];simpa using p3
 .have hlt:=(zg.1 hk).1;simp only[yJ,zR];rw[zu hlt];exact hk
structure Grown(K:Env)(w:World)(i es n:Nat)(w':World)(x:Option qJ):Prop where
 os:w'.os=w.os
 tape:w'.tape=w.tape
 output:w'.output=w.output
 drawn:w.drawn<=w'.drawn
 size:w.heap.size<=w'.heap.size
 hold:∀k,k<w.heap.size->(∀e,K[i]?=some (some e)->e.g≠k)->w'.heap[k]?=w.heap[k]?
 blk:∀e,x=some e->e.base=0/\(K[i]?=some (some e)\/e.g=w.heap.size)
 cells:∀e o a b,x=some e->w'.heap[e.g]?=some o->a<n->b<es->∃e0 o0,K[i]?=some (some e0)/\w.heap[e0.g]?=some o0/\ZY o es a b=ZY o0 es a b
theorem vU.r9(H:vU M K w O nx){i es n:Nat}{h h':Hp}(hi:u6 i O=some h){w':World}{x:Option qJ}(G:Grown K w i es n w' x)(hs:vV (K++ [x]) w' true (.loc nx) h')
 (hf:∀k,u5 (K++ [x]) w' (.loc nx) h' k->u5 K w (.loc i) h k\/w.heap.size<=k):vU M (K++ [x]) w' ((nx,h')::wh i O) (nx+1):=by
 have hpre:K<+:K++ [x]:=zD _ _;have hold:∀k,k<w.heap.size->¬u5 K w (.loc i) h k->w'.heap[k]?=w.heap[k]?:=fun k hk hn=>G.hold k hk fun e he hek=>hn (hek▸u5.own he)
 have back:∀{j g},u6 j (wh i O)=some g->j≠i/\u6 j O=some g:=fun{j g} hj=>by
  have hne:j≠i:=fun e=>by subst e;rw[Ym]at hj;cases hj
  exact⟨hne,by rw[<-Jq i O j hne];exact hj⟩
 have keep:∀{j g},u6 j (wh i O)=some g->∀k,u5 K w (.loc j) g k->w'.heap[k]?=w.heap[k]?:=fun{j g} hj k f=>hold k ((H.own.1 j g (back hj).2).1.uL f) fun f'=>H.own.2 j i g h k (back hj).2 hi (back hj).1 f f';have bk:∀{j g},u6 j (wh i O)=some g->∀k,u5 (K++ [x]) w' (.loc j) g k->u5 K w (.loc j) g k:=fun{j g} hj k f=>H.stands hpre (back hj).2 (keep hj) f;refine{pre:=H.pre.trans hpre,len:=by simp[H.len],wH:=H.wH,own:=⟨fun j g hj=>?_,fun j j' g g' k hj hj' hne f f'=>?_⟩,fr:=⟨G.os.trans H.fr.os,G.tape.trans H.fr.tape,G.output.trans H.fr.output,zK H.fr.drawn G.drawn,zK H.fr.size G.size,fun k hk hF=>?_⟩}
 .rw[Z6]at hj;split at hj
  .rename_i hq;subst hq;injection hj with hj;subst hj
   refine⟨hs,fun k f=>(hf k f).elim (fun f=>(H.own.1 i h hi).2 k f) fun hk=> .inr (zK H.fr.size hk)⟩
  exact⟨((H.own.1 j g (back hj).2).1.keep (keep hj)).mono hpre,fun k f=>(H.own.1 j g (back hj).2).2 k (bk hj k f)⟩
 .have other:∀{a g},u6 a (wh i O)=some g->u5 (K++ [x]) w' (.loc a) g k->u5 (K++ [x]) w' (.loc nx) h' k->False:=fun{a g} ha f f'=>by
   have f:=bk ha k f;rcases hf k f' with f'|hk
   exact H.own.2 a i g h k (back ha).2 hi (back ha).1 f f';have:=(H.own.1 a g (back ha).2).1.uL f;omega
  rw[Z6]at hj hj';split at hj
  .rename_i hq;subst hq;injection hj with hj;subst hj
   rw[z6 (yO hne)]at hj';exact other hj' f' f
  .split at hj'
   .rename_i hq;subst hq;injection hj' with hj';subst hj'
    exact other hj f f'
   exact H.own.2 j j' g g' k (back hj).2 (back hj').2 hne (bk hj k f) (bk hj' k f')
 .rw[hold k (yI hk H.fr.size) fun f=>?_];exact H.fr.block k hk hF
  .rcases(H.own.1 i h hi).2 k f with h|h
   exact hF h;omega
theorem PC{a b n es:Nat}(ha:a<n)(hb:b<es):a*es+b<n*es:=by
 have:=yl es (show a+1<=n from ha);rw[yB]at this;omega
theorem PD{P:Program}{i es:Nat}{t u e:TypeId}{ie:TypeInfo}{z sv xv:Value}{n m b:Nat}{news:List Value}{rs xs:List (List SV)}(hη:K.length=nx)(hd:P.underlying t=some (.slice e))(hu:(∃q,P.underlying u=some (.slice q))\/P.underlying u=some .string)(h1:P.info? e=some ie)(h2:ie.zero=some z)(uV:ie.size=es)(fQ:ie.bytes=b)(hzl:z.cells.size=es)
 (dN:Den K (.sl (.loc i) 0 es n none) sv) (uc:uQ K w true (.loc i) es rs) (N:pF P w K es xs m xv news) (q1:xs.length=m) (q2:n<=rs.length) (q3:n+m<=9223372036854775807) (q4:min (2*(n+m)) ((n+m)+(n+m)/4+192)*b<=281474976710656):
 ∃z' w' x,(Builtin.append_ #[t,u] ty #[sv,xv]).run P w= .ok z' w'/\Den (K++ [x]) (.sl (.loc nx) 0 es (n+m) none) z'/\uQ (K++ [x]) w' true (.loc nx) es (rs.take n++xs)/\Grown K w i es n w' x:=by
 have jW:∀{base:Option Addr} {cap:Nat} {olds:List Value} {rs:List (List SV)},sv= .slice base n cap->cap<n+m->(∀w',w'.heap=w.heap->(Builtin.firstCells es n (.slice base n cap)).run P w'= .ok ⟨olds⟩ w')->uk K es rs olds->(∀u∈olds,u.oneCell'=true)->rs.length=n->
  (∀a b,a<n->b<es->∃e0 o0 v,K[i]?=some (some e0)/\w.heap[e0.g]?=some o0/\ZY o0 es a b=some v/\olds[a*es+b]?=some v)->
  ∃z' w' x,(Builtin.append_ #[t,u] ty #[sv,xv]).run P w= .ok z' w'/\Den (K++ [x]) (.sl (.loc nx) 0 es (n+m) none) z'/\uQ (K++ [x]) w' true (.loc nx) es (rs++xs)/\Grown K w i es n w' x:=by
  intro base cap olds rs kX hroom ho cU pG hrl hc;obtain⟨z',w',cap',arr,T,fz,p1,p2,⟨p3,p4,p5,p6⟩,p7,p8,p9⟩:=PB (ty:=ty) hη hd hu h1 h2 uV fQ hzl kX N hroom q3 q4 ho cU pG hrl q1;refine⟨z',w',_,p1,p7,p8,⟨p3,p4,p5,p6,by rw[p2];simp,fun k hk _=>?_,fun e he=>?_,fun e o a b he ho ha hb=>?_⟩⟩;rw[p2,vh,z6 (by omega)];injection he with he;subst he;exact⟨rfl, .inr rfl⟩
  .injection he with he;subst he;rw[Yo p2]at ho;injection ho with ho;subst ho
   obtain⟨e0,o0,v,g1,g2,g3,g4⟩:=hc a b ha hb;exact⟨e0,o0,g1,g2,by rw[g3];exact p9 _ _ g4⟩
 have ri:m=0->xs=[]/\news=[]:=fun hm0=>by
  subst hm0;exact⟨zO.1 q1,by apply zO.1;rw[N.len];omega⟩
 have still:∀{x:Option qJ},(∀e,x=some e->e.base=0/\K[i]?=some (some e))->n=0->Grown K w i es n w x:=fun{x} hx hn=>
  ⟨rfl,rfl,rfl,zn _,zn _,fun _ _ _=>rfl,fun e he=>⟨(hx e he).1, .inl (hx e he).2⟩,fun e o a b _ _ ha=>by omega⟩
 simp only[Den,Env.get]at dN;unfold uQ at uc;simp only[Env.get]at uc;rcases dN with⟨p1,kX,p3⟩|⟨en,o,p1,kX,p3,p4,p5⟩
 .rcases uc with⟨p6,rfl⟩|⟨eP,arr,T,fz,p6,_⟩
  case inr=>rw[p1]at p6;cases p6
  subst p3;by_cases hm0:m=0
  .subst hm0;obtain⟨rfl,rfl⟩:=ri rfl;have hrun:=PA (P:=P) (ty:=ty) (w:=w) (i:=ie) hd hu h1 N.lenOf (by rw[uV];exact N.first);rw[<-kX]at hrun;exact⟨_,w,none,hrun,Or.inl ⟨ZS hη _,kX,rfl⟩,Or.inl ⟨ZS hη _,rfl⟩,still (fun e h=>by cases h) rfl⟩
  exact jW (rs:=[]) (olds:=[]) kX (by omega) (fun w' _=>rfl) (by simp[uk]) (by simp) rfl (fun a b ha=>by omega)
 .rcases uc with⟨p6,_⟩|⟨eP,arr,T,fz,p6,p7,p8,p9⟩
  rw[p1]at p6;cases p6;rw[p1]at p6;injection p6 with p6;injection p6 with p6;subst p6
  obtain⟨aJ,aK,Ke,gK⟩:=p8 trivial;rw[gK]at p9;simp only[Option.getD_none]at kX p3 p4 p5
  have FH:∀(k:Nat) (row:List SV),(rs.take n)[k]?=some row->row.length=es/\um K arr (0+k*es) row:=by
   intro k row hk;rw[y4]at hk;split at hk
   exact p9 k row hk;cases hk
  have sO:(rs.take n).length=n:=by rw[zA];omega
  obtain⟨g1,g2,g3⟩:=De FH;rw[sO]at g1 g2 g3;by_cases PE:en.cap=0
  ·
   have hn0:n=0:=by omega
   subst hn0;by_cases hm0:m=0
   .subst hm0;obtain⟨rfl,rfl⟩:=ri rfl
    have hrun:(Builtin.append_ #[t,u] ty #[sv,xv]).run P w= .ok (.slice (some ⟨en.g,o,none⟩) 0 (en.cap-0)) w:=by
     have kU:=N.first w rfl;rcases hu with⟨q,hu⟩|hu<;>simp[kX,Builtin.append_,Z5 hd,Z5 hu,Zr h1,N.lenOf,uV,kU,storeCells]
    refine⟨_,w,some en,hrun,?_,?_,still (fun e h=>by injection h with h;subst h;exact⟨gK,p1⟩) rfl⟩
    .simp only[Den];right
     exact⟨en,o,ZS hη _,by simp,by simp,by simp,fun _=>p5 (.inr trivial)⟩
    exact .inr ⟨en,arr,T,fz,ZS hη _,p7,fun _=>⟨aJ,aK,by simp,gK⟩,fun k row hk=>by simp at hk⟩
   exact jW (rs:=[]) (olds:=[]) kX (by omega) (fun w' _=>by simp[Builtin.firstCells,loadCells,loadCellsFrom]) (by simp[uk]) (by simp) rfl (fun a b ha=>by omega)
  .have ho:=p5 (.inl (by omega));rw[gK]at ho;simp only[yQ,Nat.add_zero]at ho;subst ho;by_cases hroom:n+m<=en.cap
   .obtain⟨r1,r2⟩:=WY aK (r:=n) (by omega) (by rw[sO];exact zn _) FH N.den N.one;have hrun:=Pz (P:=P) (ty:=ty) (w:=w) (i:=ie) (cap:=en.cap) hd hu h1 N.lenOf (by rw[uV];exact N.first) p7 aJ N.one hroom (by rw[uV];exact r1);rw[show Value.slice (some ⟨en.g,0,none⟩) n en.cap=sv by rw[kX];simp]at hrun;rw[uV]at hrun
    have jX:(arr.toList.take (n*es)++news++arr.toList.drop (n*es+news.length)).toArray.size=arr.size:=by
     simp only[yc,ze,zA,zW,Array.length_toList];omega
    have hnew:=setRow_heap w en.g arr (arr.toList.take (n*es)++news++arr.toList.drop (n*es+news.length)).toArray T fz p7
    refine⟨_,_,some en,hrun,?_, .inr ⟨en,_,T,fz,ZS hη _,hnew,fun _=>⟨by rw[jX];exact aJ,by rw[jX];exact aK,by rw[ze,sO,q1];omega,gK⟩,fun k q hk=>?_⟩,
     ⟨rfl,rfl,rfl,zn _,by rw[setRow_size];exact zn _,fun k _ hk=>setRow_other w en.g k _ (hk en p1).symm,fun e h=>by injection h with h;subst h;exact⟨gK, .inl p1⟩,fun e o a b he ho ha hb=>?_⟩⟩
    .simp only[Den];right
     exact⟨en,0,ZS hη _,by simp,by simpa using hroom,by simp,fun _=>by simp[gK]⟩
    .rw[gK]
     obtain⟨p1,p2⟩:=r2 k q (by
      rw[List.take_take,Nat.min_self];rw[zu (zg.1 hk).1]
      exact hk)
     exact⟨p1,p2.mono (zD _ _)⟩
    .injection he with he;subst he;rw[hnew]at ho;injection ho with ho;subst ho
     refine⟨_,_,p1,p7,?_⟩;have hlt:=PC ha hb;simp only[ZY,yJ,zR];rw[zu (by rw[zA,Array.length_toList];omega),y4,z8 hlt];simp
   .refine jW (rs:=rs.take n) kX (by omega) (fun w' hw'=>?_) g1 g3 sO (fun a b ha hb=>?_)
    .have hcell:∀j u,((arr.toList.drop 0).take (n*es))[j]?=some u->w'.cell? ((⟨en.g,0,none⟩:Addr).add j)=some u:=by
      intro j u hj;rw[y4]at hj;split at hj
      .rw[ye]at hj;rw[Addr.add_lit,Pv hw'];simp only[World.cell?,p7];simpa using hj
      cases hj
     exact run_firstCells_some (P:=P) w' es n ⟨en.g,0,none⟩ n _ _ g2 hcell
    .have hlt:=PC ha hb
     have hin:a*es+b<arr.size:=by
      have:n*es<=en.cap*es:=yl _ (by omega);omega
     refine⟨en,_,arr[a*es+b],p1,p7,by simp[ZY,hin],?_⟩;rw[y4,z8 hlt];simp[hin]
theorem Zfl{P:Program}{i es l:Nat}{t u e:TypeId}{ie:TypeInfo}{sv xv:Value}{n m:Nat}{news:List Value}{rs xs:List (List SV)}(hd:P.underlying t=some (.slice e))(hu:(∃q,P.underlying u=some (.slice q))\/P.underlying u=some .string)(h1:P.info? e=some ie)(uV:ie.size=es)
 (dN:Den K (.sl (.loc i) 0 es n (some l)) sv) (uc:uQ K w true (.loc i) es rs) (N:pF P w K es xs m xv news) (q1:xs.length=m) (q0:0<n) (q2:n<=rs.length) (q3:n+m<=l):
 ∃z' w' en,(Builtin.append_ #[t,u] ty #[sv,xv]).run P w= .ok z' w'/\Den K (.sl (.loc i) 0 es (n+m) (some l)) z'/\K[i]?=some (some en)/\(∀k,k≠en.g->w'.heap[k]?=w.heap[k]?)/\w'.heap.size=w.heap.size/\w'.os=w.os/\w'.tape=w.tape/\w'.output=w.output/\w.drawn<=w'.drawn/\
  uQ K w' true (.loc i) es (rs.take n++xs):=by
 simp only[Den,Env.get]at dN;unfold uQ at uc;simp only[Env.get]at uc;rcases dN with⟨p1,kX,p3⟩|⟨en,o,p1,kX,p3,p4,p5⟩
 omega;rcases uc with⟨p6,_⟩|⟨eP,arr,T,fz,p6,p7,p8,p9⟩
 rw[p1]at p6;cases p6;rw[p1]at p6;injection p6 with p6;injection p6 with p6;subst p6
 obtain⟨aJ,aK,Ke,gK⟩:=p8 trivial;rw[gK]at p9;simp only[Option.getD_some]at kX p3 p4 p5
 have FH:∀(k:Nat) (row:List SV),(rs.take n)[k]?=some row->row.length=es/\um K arr (0+k*es) row:=by
  intro k row hk;rw[y4]at hk;split at hk
  exact p9 k row hk;cases hk
 have sO:(rs.take n).length=n:=by rw[zA];omega
 have ho:=p5 (.inr trivial);rw[gK]at ho;simp only[yQ,Nat.add_zero]at ho;subst ho;obtain⟨r1,r2⟩:=WY aK (r:=n) (by omega) (by rw[sO];exact zn _) FH N.den N.one;have hrun:=Pz (P:=P) (ty:=ty) (w:=w) (i:=ie) (cap:=l) hd hu h1 N.lenOf (by rw[uV];exact N.first) p7 aJ N.one q3 (by rw[uV];exact r1);rw[show Value.slice (some ⟨en.g,0,none⟩) n l=sv by rw[kX];simp]at hrun;rw[uV]at hrun
 have jX:(arr.toList.take (n*es)++news++arr.toList.drop (n*es+news.length)).toArray.size=arr.size:=by
  simp only[yc,ze,zA,zW,Array.length_toList];omega
 have hnew:=setRow_heap w en.g arr (arr.toList.take (n*es)++news++arr.toList.drop (n*es+news.length)).toArray T fz p7;refine⟨_,_,en,hrun,?_,p1,fun k hk=>setRow_other w en.g k _ hk,setRow_size _ _ _,rfl,rfl,rfl,zn _, .inr ⟨en,_,T,fz,p1,hnew,fun _=>⟨by rw[jX];exact aJ,by rw[jX];exact aK,by rw[ze,sO,q1];omega,gK⟩,fun k q hk=>?_⟩⟩
 .simp only[Den];right
  exact⟨en,0,p1,by simp,by simpa using q3,by simpa using p4,fun _=>by simp[gK]⟩
 .rw[gK]
  exact r2 k q (by
   rw[List.take_take,Nat.min_self];rw[zu (zg.1 hk).1]
   exact hk)
theorem Zfm{T:qg}{e:TypeId}{s:SV}{es:Nat}{rows:List (List SV)}(h:gq T e s= .uC es rows):s= .val (.slice none 0 0)/\rows=[]:=by
 unfold gq at h;split at h
 .split at h
  injection h with _ h;exact⟨rfl,h.symm⟩;cases h
 cases h
theorem Zfn{T:qg}{e:TypeId}{s:SV}{v:Value}(h:Den K s v):Den K (Y0 (gq T e s)) v:=by
 unfold gq;split
 .split
  simp only[Y0,Den];exact h
 exact h
theorem vU.sP(H:vU M K w O nx){i es n:Nat}{rs:List (List DC)}{xs:List (List SV)}{T:qg}{e:TypeId}(hi:u6 i O=some (.deep false es rs))(hn:n<=rs.length){w':World}{x:Option qJ}(G:Grown K w i es n w' x)
 (hs:uQ (K++ [x]) w' true (.loc nx) es ((ZA rs).take n++xs)):vU M (K++ [x]) w' ((nx, .deep false es (rs.take n++xs.map fun row=>row.map (gq T e)))::wh i O) (nx+1):=by
 have hpre:K<+:K++ [x]:=zD _ _;obtain⟨uc,_⟩:=H.own.1 i _ hi;obtain⟨_,hD,_⟩:=uc.qD;have pH:=ZS H.len x
 have kids:∀{e1 o a b y},x=some e1->w'.heap[e1.g]?=some o->Yy (rs.take n++xs.map fun row=>row.map (gq T e)) a b=some y->
  (∃e0 o0,K[i]?=some (some e0)/\w.heap[e0.g]?=some o0/\Yy rs a b=some y/\ZY o es a b=ZY o0 es a b)\/(y.2=[]/\ZY o es a b=some (.slice none 0 0)):=by
  intro e1 o a b y hx ho hk;subst hx;obtain⟨y1,y2⟩:=y;obtain⟨row,k1,k2⟩:=uB.1 hk;rcases hs with⟨h1,_⟩|⟨e',arr,T',fz,h1,h2,h3,h4⟩
  rw[pH]at h1;cases h1;rw[pH]at h1;injection h1 with h1;injection h1 with h1;subst h1
  rw[h2]at ho;injection ho with ho;subst ho
  obtain⟨_,_,_,hb0⟩:=h3 rfl;rw[hb0]at h4;by_cases ha:a<n
  .have pI:(rs.take n).length=n:=by rw[zA];omega
   rw[zu (by omega),y4,z8 ha]at k1
   have hfl:((ZA rs).take n++xs)[a]?=some (row.map Y0):=by
    rw[zu (by rw[zA,Yc];omega),y4,z8 ha,Yp,k1];rfl
   have jR:=(zg.1 k2).1;have hle:=(h4 a _ hfl).1;rw[zj]at hle;obtain⟨e0,o0,g1,g2,g3⟩:=G.cells _ _ a b rfl h2 ha (by omega);exact .inl ⟨e0,o0,g1,g2,uB.2 ⟨row,k1,k2⟩,g3⟩
  .have pI:(rs.take n).length=n:=by rw[zA];omega
   rw[zz (by omega),pI,z7]at k1;obtain⟨dM,k3,rfl⟩:=zH.1 k1;rw[z7]at k2;obtain⟨s,k4,k5⟩:=zH.1 k2;obtain⟨rfl,rfl⟩:=Zfm k5
   have hfl:((ZA rs).take n++xs)[a]?=some dM:=by
    have Dz:((ZA rs).take n).length=n:=by rw[zA,Yc];omega
    rw[zz (by omega),Dz];exact k3
   obtain⟨v,q1,_,q2⟩:=(h4 a _ hfl).2 b _ k4;rw[zw]at q1;have q2:v= .slice none 0 0:=q2.1;exact .inr ⟨rfl,by rw[<-q2];exact q1⟩
 have pJ:∀{e0 o0 a b y v k},K[i]?=some (some e0)->w.heap[e0.g]?=some o0->Yy rs a b=some y->ZY o0 es a b=some v->v.ownBlock=some k->k<w.heap.size/\k≠e0.g/\u5 K w (.loc i) (.deep false es rs) k:=by
  intro e0 o0 a b y v k g1 g2 g3 g4 g5;obtain⟨y1,y2⟩:=y;obtain⟨v',f1,f2,f3⟩:=((hD e0 g1).2 o0 g2).sat a b _ _ g3;rw[g4]at f1;injection f1 with f1;subst f1
  have ff:u5 K w (.loc i) (.deep false es rs) k:=⟨e0,g1, .inr (by simp only[uC];exact⟨o0,a,b,_,v,g2,g3,g4,g5⟩)⟩;exact⟨uc.uL ff,fun h=>f3 (h▸g5),ff⟩
 refine H.r9 hi G ?_ fun k f=>?_
 .refine vV.j9 (mp:=false) ?_ (fun h=>by cases h) fun e1 he=>?_
  .show uQ _ _ _ _ _ _
   unfold uQ at hs⊢
   have K5:∀(j:Nat) (row:List SV),(ZA (rs.take n++xs.map fun row=>row.map (gq T e)))[j]?=some row->∃dO,((ZA rs).take n++xs)[j]?=some dO/\(row=dO\/row=dO.map fun s=>Y0 (gq T e s)):=by
    intro j row hj;unfold ZA at hj⊢;rw[yo,List.map_take]at hj;by_cases hjl:j< ((rs.map fun r=>r.map Y0).take n).length
    .rw[zu hjl]at hj⊢;exact⟨row,hj, .inl rfl⟩
    .rw[zz (by omega)]at hj⊢;rw[yq,z7]at hj;obtain⟨dO,q1,q2⟩:=zH.1 hj;refine⟨dO,q1, .inr ?_⟩;rw[<-q2];simp[Function.comp]
   have mh:(ZA (rs.take n++xs.map fun row=>row.map (gq T e))).length=((ZA rs).take n++xs).length:=by simp[ZA]
   rcases hs with⟨h1,h2⟩|⟨e',arr,T',fz,h1,h2,h3,h4⟩
   exact .inl ⟨h1,zO.1 (by rw[mh,h2];rfl)⟩
   .refine .inr ⟨e',arr,T',fz,h1,h2,fun h=>by rw[mh];exact h3 h,fun j row hj=>?_⟩;obtain⟨dO,q1,q2⟩:=K5 j row hj;obtain⟨q3,q4⟩:=h4 j dO q1;rcases q2 with rfl|rfl
    exact⟨q3,q4⟩
    .refine⟨by rw[zj];exact q3,fun c sv hc=>?_⟩;rw[z7]at hc;obtain⟨s,q5,rfl⟩:=zH.1 hc;obtain⟨v,q6,q7,q8⟩:=q4 c s q5;exact⟨v,q6,q7,Zfn q8⟩
  .rw[pH]at he;injection he with he;obtain⟨hb0,jR⟩:=G.blk e1 he;refine⟨hb0,fun o ho=>⟨fun a b es' rows hk=>?_,fun a b a' b' y y' v v' k k1 k2 k3 k4 k5 k6=>?_⟩⟩
   .rcases kids he ho hk with⟨e0,o0,g1,g2,g3,g4⟩|⟨g1,g2⟩
    .obtain⟨v,f1,f2,f3⟩:=((hD e0 g1).2 o0 g2).sat a b _ _ g3;refine⟨v,g4.trans f1,(f2.keep fun k hk=>?_).mono hpre,fun h=>?_⟩
     .obtain⟨l1,l2,_⟩:=pJ g1 g2 g3 f1 hk;exact G.hold k l1 fun e2 h2=>by rw[g1]at h2;injection h2 with h2;injection h2 with h2;subst h2;exact l2.symm
     .obtain⟨l1,l2,_⟩:=pJ g1 g2 g3 f1 h;rcases jR with jR|jR
      rw[g1]at jR;injection jR with jR;injection jR with jR;subst jR;exact l2 rfl
      omega
    .simp only at g1;subst g1;exact⟨_,g2, .inl ⟨rfl,rfl⟩,by simp[Value.ownBlock]⟩
   .rcases kids he ho k1 with⟨e0,o0,g1,g2,g3,g4⟩|⟨_,g2⟩
    .rcases kids he ho k2 with⟨e0',o0',Q1,Q2,g3',g4'⟩|⟨_,Q2⟩
     .rw[g1]at Q1;injection Q1 with Q1;injection Q1 with Q1;subst Q1
      rw[g2]at Q2;injection Q2 with Q2;subst Q2
      exact((hD e0 g1).2 o0 g2).ne a b a' b' y y' v v' k g3 g3' (g4▸k3) (g4'▸k4) k5 k6
     rw[Q2]at k4;injection k4 with k4;subst k4;cases k6
    rw[g2]at k3;injection k3 with k3;subst k3;cases k5
 .obtain⟨e1,f1,f2⟩:=f;rw[pH]at f1;injection f1 with f1;rcases f2 with rfl|f2
  .rcases(G.blk e1 f1).2 with h|h
   exact .inl (u5.own h);exact .inr (by omega)
  .simp only[uC]at f2;obtain⟨o,a,b,y,v,f3,f4,f5,f6⟩:=f2;rcases kids f1 f3 f4 with⟨e0,o0,g1,g2,g3,g4⟩|⟨_,g2⟩
   exact .inl (pJ g1 g2 g3 (g4▸f5) f6).2.2;rw[g2]at f5;injection f5 with f5;subst f5;cases f6
theorem Zfo(A:At M K w O nx ρ lk)(args:Array Operand)(ts:Array TypeId)(hr:(wj M.C lk O nx (.call ⟨.builtin .append,args,ts⟩)).ok O nx v O' vZ):Y9 M K w ⟨dst, .call ⟨.builtin .append,args,ts⟩,ty,pos,af,gd⟩ ρ v O' vZ:=by
 simp only[wj,JV,Oy]at hr;split at hr
 case h_2=>exact hr.elim
 rename_i s x ha;obtain rfl:args= #[s,x]:=by apply yC;simpa using ha
 split at hr
 case h_2=>exact hr.elim
 rename_i t u htu;obtain rfl:ts= #[t,u]:=by apply yC;simpa using htu
 split at hr
 case h_2=>exact hr.elim
 rename_i sv hs;split at hr
 case h_2=>exact hr.elim
 rename_i PF hx;have dN:=A.L _ _ hs;have aL:=A.L _ _ hx
 have fin:∀{z:Value} {w':World},(Builtin.append_ #[t,u] ty #[ρ s,ρ x]).run M.P w= .ok z w'->r6 M.P ⟨dst, .call ⟨.builtin .append, #[s,x], #[t,u]⟩,ty,pos,af,gd⟩ ρ w z w':=by
  intro z w' h;exact .inl (by simp[execOp,resolve,invoke,builtin,h])
 have main:((∃q,M.P.underlying u=some (.slice q))\/M.P.underlying u=some .string)->(Fj M.C O nx t sv PF).ok O nx v O' vZ->Y9 M K w ⟨dst, .call ⟨.builtin .append, #[s,x], #[t,u]⟩,ty,pos,af,gd⟩ ρ v O' vZ:=by
  intro hu hr;unfold Fj at hr;split at hr
  case h_2=>exact hr.elim
  rename_i e hst;obtain⟨d,hd,hm⟩:=A.T.qY t (by rw[hst];simp);rw[hst]at hm;simp only[qV]at hm;subst hm;split at hr
  exact hr.elim;rename_i c cs hz;have hsh:M.C.T.sh e≠ .other:=A.T.r5 e (by rw[hz];simp);obtain⟨ie,z,h1,h2,h3,h4,h5,_⟩:=A.T.zero e hsh (by rw[hz];simp);rw[hz]at h3 h5;obtain⟨Dj,hie,uV,fQ⟩:=A.T.info e hsh;rw[h1]at hie;injection hie with hie;subst hie
  have h3:=vX.mono (η':=K) xq h3;have hzl:z.cells.size=M.C.T.size e:=by have:=ZL h3;rw[h5]at this;simpa using this
  split at hr
  exact hr.elim;rename_i xs m hrows
  have jW:∀{base:Option Addr} {n cap:Nat} {olds news:List Value} {rs:List (List SV)},ρ s= .slice base n cap->pF M.P w K (M.C.T.size e) xs m (ρ x) news->cap<n+m->n+m<=9223372036854775807->min (2*(n+m)) ((n+m)+(n+m)/4+192)*M.C.T.bytes e<=281474976710656->
   (∀w',w'.heap=w.heap->(Builtin.firstCells (M.C.T.size e) n (.slice base n cap)).run M.P w'= .ok ⟨olds⟩ w')->uk K (M.C.T.size e) rs olds->(∀u∈olds,u.oneCell'=true)->rs.length=n->xs.length=m->
   v= .sl (.loc nx) 0 (M.C.T.size e) (n+m) none->O'=(nx, .rows (M.C.T.size e) (rs++xs))::O->vZ=nx+1->Y9 M K w ⟨dst, .call ⟨.builtin .append, #[s,x], #[t,u]⟩,ty,pos,af,gd⟩ ρ v O' vZ:=by
   intro base n cap olds news rs kX N hroom h63 hby ho cU pG hrl hxl e1 e2 e3;subst e1 e2 e3;obtain⟨z',w',cap',arr,T,fz,p1,p2,⟨p3,p4,p5,p6⟩,p7,p8,_⟩:=PB (ty:=ty) A.H.len hd hu h1 h2 uV fQ hzl kX N hroom h63 hby ho cU pG hrl hxl;exact⟨_,_,_,fin p1,zD _ _,vU.alloc A.H p2 p3 p4 p5 0 _ p8 p6,p7,fun _ h=>absurd h (by simp)⟩
  split at hr
  .obtain⟨⟨q1,q2,q3⟩,e1,e2,e3⟩:=hr;have kX:ρ s= .slice none 0 0:=And.left dN;obtain⟨news,N⟩:=X9 A aL hrows q1;by_cases hm0:m=0
   .subst hm0;have hx0:xs=[]:=zO.1 q1;have hn0:news=[]:=by apply zO.1;rw[N.len];omega
    subst hx0 hn0 e1 e2 e3;have hrun:=PA (P:=M.P) (ty:=ty) (w:=w) (i:=ie) hd hu h1 N.lenOf (by rw[uV];exact N.first);rw[<-kX]at hrun;refine⟨_,w,K++ [none],fin hrun,zD _ _,?_,?_,fun _ h=>absurd h (by simp)⟩;exact A.H.name none (Or.inl ⟨ZS A.H.len _,rfl⟩) (fun e h=>by cases h) (fun e h=>by cases h);exact Or.inl ⟨ZS A.H.len _,kX,rfl⟩
   refine jW (rs:=[]) (olds:=[]) kX N (by omega) (by omega) (Px (by simpa using q3)) (fun w' _=>rfl) (by simp[uk]) (by simp) rfl q1 (by simpa using e1) (by simpa using e2) e3
  .rename_i i es n _;split at hr
   case h_3=>exact hr.elim
   .rename_i es' rs hh;split at hr
    case h_2=>exact hr.elim
    rename_i wT;have wT:=Zq wT;subst wT;split at hr
    case h_2=>exact hr.elim
    rename_i fT;have fT:=Zq fT;subst fT;obtain⟨⟨q1,q2,q3,q4⟩,e1,e2,e3⟩:=hr;obtain⟨news,N⟩:=X9 A aL hrows q1;obtain⟨z',w',x',hrun,cV,cK,G⟩:=PD (ty:=ty) A.H.len hd hu h1 h2 uV fQ hzl dN (A.H.own.1 i _ hh).1 N q1 q2 q3 q4;subst e1 e2 e3;refine⟨_,_,_,fin hrun,zD _ _,A.H.r9 hh G cK fun k f=>?_,cV,fun _ h=>absurd h (by simp)⟩;obtain⟨e1,f1,f2⟩:=f;rw[ZS A.H.len]at f1;injection f1 with f1;rcases f2 with rfl|f2
    .rcases(G.blk e1 f1).2 with h|h
     exact .inl (u5.own h);exact .inr (by omega)
    exact f2.elim
   .rename_i es' rs hh;split at hr
    case h_2=>exact hr.elim
    rename_i wT;have wT:=Zq wT;subst wT;split at hr
    case h_2=>exact hr.elim
    rename_i fT;have fT:=Zq fT;subst fT;obtain⟨⟨q1,q2,q3,q4⟩,e1,e2,e3⟩:=hr;obtain⟨news,N⟩:=X9 A aL hrows q1;have uc:=(A.H.own.1 i _ hh).1;simp only[vV]at uc;obtain⟨z',w',x',hrun,cV,cK,G⟩:=PD (ty:=ty) A.H.len hd hu h1 h2 uV fQ hzl dN uc.1 N q1 (by rw[Yc];exact q2) q3 q4;subst e1 e2 e3;exact⟨_,_,_,fin hrun,zD _ _,A.H.sP hh q2 G cK,cV,fun _ h=>absurd h (by simp)⟩
  .rename_i b r es n l _;split at hr
   case h_2 z0l=>
    unfold AW at hr;split at hr
    case h_2=>exact hr.elim
    rename_i i _;split at hr
    case h_2=>exact hr.elim
    rename_i es' ds hh;split at hr
    case h_2=>exact hr.elim
    rename_i wT;have wT:=Zq wT;subst wT;split at hr
    case h_2=>exact hr.elim
    rename_i fT;have fT:=Zq fT;subst fT;obtain⟨⟨q1,q2,q3,q4,q5,q6⟩,hr⟩:=hr;obtain⟨news,N⟩:=X9 A aL hrows q1;have uc:=(A.H.own.1 i _ hh).1;simp only[vV]at uc;have pK:=uc.1;rcases yD l (n+m)with hlt|hlt
    .simp only[uz.ok,yA hlt,yH]at hr;obtain⟨e1,e2,e3⟩:=hr
     obtain⟨en,o,g1,kX,g2⟩:∃en o,K[i]?=some (some en)/\ρ s= .slice (some ⟨en.g,o,none⟩) n l/\n<=l:=by
      simp only[Den,Env.get]at dN;rcases dN with⟨_,_,h0⟩|⟨en,o,g1,g2,g3,_⟩
      omega
      .simp only[Option.getD_some,Nat.sub_zero,zw]at g2 g3;exact⟨en,o,g1,g2,g3⟩
     have A':At M K w (uO i (.rows (M.C.T.size e) (ZA ds)) O) nx ρ lk:=⟨A.H.bT hh g1 (fun _ _=>rfl) rfl rfl rfl rfl pK (zn _) (fun k f=>by
      rcases f.of (e:=en) (show K.get (.loc i)=some (some en)from g1)with h|h
      exact h▸u5.own g1
      exact h.elim),A.T,A.L⟩
     have hR:mb M.C (uO i (.rows (M.C.T.size e) (ZA ds)) O) (M.C.T.size e) (.sl (.loc i) 0 (M.C.T.size e) n (some l))=some ((ZA ds).take n,n):=by
      simp only[mb,Yv,Y5 i _ O i (by rw[hh];rfl),z8,Nat.beq_refl,xA]
     have Kf:((ZA ds).take n).length=n:=by rw[zA,Yc];omega
     obtain⟨olds,N2⟩:=X9 A' dN hR Kf;refine jW (rs:=(ZA ds).take n) (olds:=olds) kX N hlt q5 q6 (fun w' hw'=>?_) N2.den N2.one Kf q1 e1 e2 e3;rw[<-kX];exact N2.first w' hw'
    .simp only[uz.ok,yp (Nat.not_lt.2 hlt),x6,xm]at hr;obtain⟨e1,e2,e3⟩:=hr;obtain⟨z',w',en,hrun,cV,g1,g2,g3,g4,g5,g6,g7,g8⟩:=Zfl (ty:=ty) hd hu h1 uV dN pK N q1 q2 (by rw[Yc];exact q4) (by omega);subst e1 e2 e3
     have H1:=A.H.bT (h:= .rows (M.C.T.size e) ((ZA ds).take n++xs)) hh g1 g2 g3 g4 g5 g6 g8 g7 fun k f=>by
      rcases f.of (e:=en) (show K.get (.loc i)=some (some en)from g1)with h|h
      exact h▸u5.own g1;exact h.elim
     exact⟨_,w',K++ [none],fin hrun,zD _ _,H1.name none (Or.inl ⟨ZS A.H.len _,rfl⟩) (fun e h=>by cases h) (fun e h=>by cases h),cV.mono (zD _ _),fun _ h=>absurd h (by simp)⟩
   rename_i ys n' cK;obtain⟨⟨q0,q1,q2,q3,q4,q5⟩,e1,e2,e3⟩:=hr
   have hnn:n'=n:=by
    simp only[mb]at cK;repeat' split at cK
    all_goals first|(injection cK with cK;injection cK with _ cK;exact cK.symm)|cases cK
   subst hnn;obtain⟨news,N⟩:=X9 A aL hrows q3;obtain⟨olds,N2⟩:=X9 A dN cK q2
   obtain⟨base,kX⟩:∃base,ρ s= .slice base n' n':=by
    simp only[Den]at dN;rcases dN with⟨_,h,h0⟩|⟨en,o,_,h,_⟩
    subst h0;exact⟨none,h⟩
    .rw[q0,Option.getD_some,vQ]at h;exact⟨_,h⟩
   refine jW (rs:=ys) (olds:=olds) kX N (by omega) q4 q5 (fun w' hw'=>?_) N2.den N2.one q2 q3 e1 e2 e3;rw[<-kX];exact N2.first w' hw'
  exact hr.elim
 split at hr
 .rename_i q hsu;obtain⟨d,hd,hm⟩:=A.T.qY u (by rw[hsu];simp);rw[hsu]at hm;simp only[qV]at hm;subst hm;exact main (.inl ⟨_,hd⟩) hr
 .rename_i hsu;obtain⟨d,hd,hm⟩:=A.T.qY u (by rw[hsu];simp);rw[hsu]at hm;simp only[qV]at hm;subst hm;exact main (.inr hd) hr
 .rename_i k hsu;obtain⟨d,eE,hm⟩:=A.T.qY u (by rw[hsu];simp);rw[hsu]at hm;simp only[qV]at hm;subst hm;split at hr
  case h_2=>exact hr.elim
  have kX:ρ s= .slice none 0 0:=And.left dN;unfold AX at hr;split at hr
  case h_2=>exact hr.elim
  rename_i e hst;obtain⟨d,hd,hm⟩:=A.T.qY t (by rw[hst];simp);rw[hst]at hm;simp only[qV]at hm;subst hm;split at hr
  exact hr.elim;rename_i c cs hz;have hsh:M.C.T.sh e≠ .other:=A.T.r5 e (by rw[hz];simp);obtain⟨ie,z,h1,h2,h3,h4,h5,_⟩:=A.T.zero e hsh (by rw[hz];simp);rw[hz]at h3 h5;obtain⟨Dj,hie,uV,fQ⟩:=A.T.info e hsh;rw[h1]at hie;injection hie with hie;subst hie
  have h3:=vX.mono (η':=K) xq h3;have hzl:z.cells.size=M.C.T.size e:=by have:=ZL h3;rw[h5]at this;simpa using this
  split at hr
  case h_2=>exact hr.elim
  rename_i kk n;obtain⟨⟨q1,q2,q3⟩,e1,e2,e3⟩:=hr;have uu:=Jz aL;subst e1 e2 e3;by_cases hn0:n=0
  .subst hn0;have hrun:=Z5i (P:=M.P) (ty:=ty) (w:=w) (kk:=kk) hd eE h1;rw[<-kX,<-uu]at hrun;refine⟨_,w,K++ [none],fin hrun,zD _ _,?_,?_,fun _ h=>absurd h (by simp)⟩;exact A.H.name none (Or.inl ⟨ZS A.H.len _,rfl⟩) (fun e h=>by cases h) (fun e h=>by cases h);exact Or.inl ⟨ZS A.H.len _,kX,rfl⟩
  .have hpos:0<M.C.T.size e:=by rw[<-h5];simp
   have hrun:=Z6K (P:=M.P) (ty:=ty) (w:=w) (kk:=kk) (n:=n) hd eE h1 h2 (by rw[uV];exact hpos) (by omega) q2 (by rw[fQ];exact q3);rw[<-kX,<-uu]at hrun;have hge:=grownCap_ge w n.toNat 0 e
   have DA:(Builtin.zeroCells z.cells n.toNat).toList=XD z.cells.toList n.toNat:=by
    unfold Builtin.zeroCells;exact VB z.cells n.toNat _ rfl
   have mg:=Dx h3 (by simpa using hzl) n.toNat;have hone:=Di h4 n.toNat;have Dy:=X2 mg hone;have hlen:=JB mg;rw[zT]at hlen;refine⟨_,_,K++ [some ⟨w.heap.size,0,grownCap w n.toNat 0 e⟩],fin hrun,zD _ _,?_,Ug A.H.len hge,fun _ h=>absurd h (by simp)⟩;rw[DA];refine vU.alloc (w':=w.drew.alloc (.cells ⟨XD z.cells.toList n.toNat++(Builtin.zeroCells z.cells (grownCap w n.toNat 0 e-n.toNat)).toList⟩ e)) A.H rfl rfl rfl rfl 0 _ ?_;simp only[vV];right
   have pn:(XD z.cells.toList n.toNat++(Builtin.zeroCells z.cells (grownCap w n.toNat 0 e-n.toNat)).toList).length=grownCap w n.toNat 0 e*M.C.T.size e:=by
    rw[ze,hlen,Array.length_toList,size_zeroCells,hzl,<-xB];congr 1;omega
   refine⟨_,_,e,(0,0),ZS A.H.len _,Yo (w:=w) (w':=w.drew.alloc _) rfl,fun _=>⟨UG _,pn,?_,rfl⟩,?_⟩;rw[zT];exact hge
   .intro k row hk;obtain⟨p1,p2⟩:=Dy k row hk;refine⟨p1,fun j mN hj=>?_⟩;obtain⟨y,p3,p4,p5⟩:=p2 j mN hj;refine⟨y,?_,p4,p5.mono (zD _ _)⟩;have hlt:=(zC.1 p3).1;simp only[yJ];rw[zu (by simpa using hlt)];simpa using p3
 exact hr.elim
end
end Go.Sx
