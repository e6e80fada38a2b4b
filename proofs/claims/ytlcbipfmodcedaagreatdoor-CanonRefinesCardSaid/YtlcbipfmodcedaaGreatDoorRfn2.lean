/- Part 2: SxOpsI. Conditions: as each part says. -/
import Derived.Laws.IdiomStrings
import Derived.Test.YtlcbipfmodcedaaGreatDoorRfn1
set_option linter.unusedVariables false
set_option linter.unusedSimpArgs false
namespace Go.Sx
open Go
section
variable {M:Mx}{η:Env}{w:World}{O:Hps}{nx:Nat}{ρ:Operand->Value}{lk:Operand->Option SV}{v:SV}{O':Hps}{nx':Nat}{dst:Option Tmp}{ty:TypeId}{pos:String}{af:Array Edge}{gd:Option (Nat×Bool)}
theorem Z6J{w w':World}(h:w'.heap=w.heap)(a:Addr):w'.cell? a=w.cell? a:=by unfold World.cell?;rw[h]
structure News(P:Program)(w:World)(η:Env)(es:Nat)(xs:List (List SV))(m:Nat)(xv:Value)(news:List Value):Prop where
 len:news.length=m*es
 one:∀u∈news,u.oneCell'=true
 den:DenLL η es xs news
 lenOf:∀w',(Builtin.lenOf xv).run P w'= .ok m w'
 first:∀w',w'.heap=w.heap->(Builtin.firstCells es m xv).run P w'= .ok ⟨news⟩ w'
theorem Xm(A:At M η w O nx ρ lk){es:Nat}{x:SV}{xv:Value}{xs:List (List SV)}{m:Nat}(hd:Den η x xv)(h:Z49 M.C O es x=some (xs,m))(hl:xs.length=m):∃news,News M.P w η es xs m xv news:=by
 unfold Z49 at h;split at h
 ·rename_i b r es' len lim;split at h
  case h_2=>cases h
  rename_i es'' rs hh;split at h
  case h_2=>cases h
  rename_i h1;split at h
  case h_2=>cases h
  rename_i h2;have h1:=Zn h1;have h2:=Zn h2;subst h1 h2;simp only[Option.some.injEq,Prod.mk.injEq]at h;obtain⟨rfl,rfl⟩:=h;have hsat:=A.H.look hh;simp only[HpSat]at hsat;simp only[Den]at hd;rcases hd with⟨q1,rfl,q3⟩|⟨en,o,q1,rfl,q3,q4,q5⟩
  ·subst q3;refine⟨[],by simp,by simp,by simp[DenLL],fun w'=>rfl,fun w' _=>rfl⟩
  ·by_cases h0:len=0
   ·subst h0;refine⟨[],by simp,by simp,by simp[DenLL],fun w'=>rfl,fun w' _=>?_⟩;simp[Builtin.firstCells,loadCells,loadCellsFrom]
   ·rcases hsat with⟨q6,rfl⟩|⟨en',arr,T,fz,q6,q7,_,q8⟩
    ·rw[q1]at q6;cases q6
    rw[q1]at q6;injection q6 with q6;injection q6 with q6;subst q6
    have q8':∀(i:Nat) (row:List SV),((rs.drop r).take len)[i]?=some row->row.length=es/\CellsAt η arr (en.base+r*es+i*es) row:=by
     intro i row hi;rw[List.getElem?_take]at hi;split at hi
     ·rw[List.getElem?_drop]at hi;obtain⟨p1,p2⟩:=q8 _ row hi;refine⟨p1,?_⟩;rw[show en.base+r*es+i*es=en.base+(r+i)*es by rw[Nat.add_mul];omega];exact p2
     ·cases hi
    obtain⟨p1,p2,p3⟩:=Z8n q8';rw[hl]at p1 p2 p3;have ho:=q5 (by omega);subst ho;refine⟨_,p2,p3,p1,fun w'=>rfl,fun w' hw'=>?_⟩
    have hcell:∀j u,((arr.toList.drop (en.base+r*es)).take (len*es))[j]?=some u->w'.cell? ((⟨en.g,en.base+r*es,none⟩:Addr).add j)=some u:=by
     intro j u hj;rw[List.getElem?_take]at hj;split at hj
     ·rw[List.getElem?_drop]at hj;rw[Addr.add_lit,Z6J hw'];simp only[World.cell?,q7];simpa using hj
     ·cases hj
    exact run_firstCells_some (P:=M.P) w' es len ⟨en.g,en.base+r*es,none⟩ len _ _ p2 hcell
 ·simp only[Option.some.injEq,Prod.mk.injEq]at h;obtain⟨rfl,rfl⟩:=h;rename_i p;obtain⟨rfl,_⟩:xv= .slice p 0 0/\_:=hd;exact⟨[],by simp,by simp,by simp[DenLL],fun w'=>rfl,fun w' _=>by cases p<;>simp[Builtin.firstCells,loadCells,loadCellsFrom]⟩
 ·rename_i s;split at h
  case h_2=>cases h
  rename_i h1;have h1:=Zn h1;subst h1;simp only[Option.some.injEq,Prod.mk.injEq]at h;obtain⟨rfl,rfl⟩:=h;have hd':=Z1y hd;clear hd;subst hd';refine⟨s.map fun b=> .int .u8 (b.toNat:Int),by simp,?_,?_,fun w'=>?_,fun w' _=>?_⟩
  ·intro u hu;obtain⟨b,_,rfl⟩:=List.mem_map.1 hu
   rfl
  ·clear hl
   induction s with
   |nil=>simp[DenLL]
   |cons b s ih=>
    simp only[List.map_cons,DenLL];exact⟨[.int .u8 (b.toNat:Int)],_,rfl,rfl,by simp[bytesRow,DenL,Den],ih⟩
  ·simp[Builtin.lenOf,VE]
  ·have:(ByteArray.mk s.toArray).extract 0 s.length=⟨s.toArray⟩:=by rw[VR];simp
   simp[Builtin.firstCells,this]
 ·cases h
theorem Z1E{es:Nat}:∀{rs qs:List (List SV)} {us vs:List Value},DenLL η es rs us->DenLL η es qs vs->DenLL η es (rs++qs) (us++vs)
 | [],qs,us,vs,h,k=>by simp only[DenLL]at h;subst h;exact k
 |r::rs,qs,us,vs,h,k=>by
  simp only[DenLL]at h;obtain⟨a,b,rfl,h1,h2,h3⟩:=h;simp only[List.cons_append,DenLL,List.append_assoc];exact⟨a,_,rfl,h1,h2,Z1E h3 k⟩
theorem Z0j{arr:Array Value}{es r cap:Nat}{rs xs:List (List SV)}{us:List Value}(hsz:arr.size=cap*es)(hfits:r+xs.length<=cap)(hrr:r<=rs.length)
 (hr:∀(i:Nat) (row:List SV),rs[i]?=some row->row.length=es/\CellsAt η arr (0+i*es) row) (hd:DenLL η es xs us) (h1:∀u∈us,u.oneCell'=true):
 r*es+us.length<=arr.size/\
 ∀(i:Nat) (q:List SV),(rs.take r++xs++rs.drop (r+xs.length))[i]?=some q->q.length=es/\CellsAt η (arr.toList.take (r*es)++us++arr.toList.drop (r*es+us.length)).toArray (0+i*es) q:=by
 have hl:=V2 hd
 have hfit:r*es+us.length<=arr.size:=by
  have:(r+xs.length)*es<=cap*es:=Nat.mul_le_mul_right _ hfits;rw[Nat.add_mul]at this;omega
 refine⟨hfit,?_⟩;intro i q hi;have ht:(rs.take r).length=r:=by rw[List.length_take];omega
 rw[List.append_assoc]at hi;by_cases hir:i<r
 ·rw[List.getElem?_append_left (by omega),List.getElem?_take,if_pos hir]at hi;obtain⟨p1,p2⟩:=hr i q hi;refine⟨p1,Z0X (o:=0+i*es) p2 p1 hfit (.inl ?_)⟩;have:(i+1)*es<=r*es:=Nat.mul_le_mul_right _ hir;rw[Nat.succ_mul]at this;omega
 ·rw[List.getElem?_append_right (by omega),ht]at hi;by_cases hix:i-r<xs.length
  ·rw[List.getElem?_append_left hix]at hi;obtain⟨p1,p2⟩:=Xe hd h1 (i-r) q hi;refine⟨p1,fun j sv hj=>?_⟩;obtain⟨u,p3,p4,p5⟩:=p2 j sv hj;refine⟨u,?_,p4,p5⟩;have hlt:=(Array.getElem?_eq_some_iff.1 p3).1;have hut:(arr.toList.take (r*es)).length=r*es:=by rw[List.length_take];simp;omega
   have hi':i*es=r*es+(i-r)*es:=by rw[<-Nat.add_mul];congr 1;omega
   simp only[List.append_assoc,List.getElem?_toArray];rw[List.getElem?_append_right (by omega),hut,List.getElem?_append_left (by simp at hlt;omega)];rw[show 0+i*es+j-r*es=0+(i-r)*es+j by omega];simpa using p3
  ·rw[List.getElem?_append_right (by omega),List.getElem?_drop]at hi;rw[show r+xs.length+(i-r-xs.length)=i by omega]at hi;obtain⟨p1,p2⟩:=hr i q hi;refine⟨p1,Z0X (o:=0+i*es) p2 p1 hfit (.inr ?_)⟩;have:(r+xs.length)*es<=i*es:=Nat.mul_le_mul_right _ (by omega);rw[Nat.add_mul]at this;omega
theorem ZaI{need old:Nat}(h:old<need):Builtin.nextslicecap need old<=need+need/4+192:=by
 unfold Builtin.nextslicecap;split
 ·omega
 ·split
  ·omega
  ·rw[growBy_four]
   (repeat' split)<;>omega
theorem Z0k{need old bytes:Nat}(h:old<need)(hb:min (2*need) (need+need/4+192)*bytes<=281474976710656):Builtin.nextslicecap need old*bytes<=281474976710656:=
 Nat.le_trans (Nat.mul_le_mul_right _ (Nat.le_min.2 ⟨nextslicecap_le h,ZaI h⟩)) hb
theorem Z9y{k b:Nat}(h:k*b<=140737488355328):min (2*k) (k+k/4+192)*b<=281474976710656:=
 Nat.le_trans (Nat.mul_le_mul_right _ (Nat.min_le_left _ _)) (by rw[Nat.mul_assoc];omega)
theorem Z8p{P:Program}{w:World}{t u e:TypeId}{i:TypeInfo}{z:Value}{ty:TypeId}{base:Option Addr}{n cap m:Nat}{xv:Value}{olds news:List Value}(ht:P.underlying t=some (.slice e))(hu:(∃q,P.underlying u=some (.slice q))\/P.underlying u=some .string)(hi:P.info? e=some i)(hz:i.zero=some z)
 (hn:∀w',(Builtin.lenOf xv).run P w'= .ok m w') (hf:∀w',w'.heap=w.heap->(Builtin.firstCells i.size m xv).run P w'= .ok ⟨news⟩ w') (ho:∀w',w'.heap=w.heap->(Builtin.firstCells i.size n (.slice base n cap)).run P w'= .ok ⟨olds⟩ w')
 (hroom:cap<n+m) (h63:n+m<=9223372036854775807) (hbytes:min (2*(n+m)) ((n+m)+(n+m)/4+192)*i.bytes<=281474976710656):
 (Builtin.append_ #[t,u] ty #[.slice base n cap,xv]).run P w= .ok (.slice (some ⟨w.heap.size,0,none⟩) (n+m) (grownCap w (n+m) cap e))
   (w.drew.alloc (.cells ⟨olds++news++(Builtin.zeroCells z.cells (grownCap w (n+m) cap e-(n+m))).toList⟩ e)):=by
 have hcap:=Z0k hroom hbytes;have h1:¬(n+m<=cap):=by omega
 have h2:¬(9223372036854775807< ((n:Int)+(m:Int))):=by omega
 have h3:¬(281474976710656<Builtin.nextslicecap (n+m) cap*i.bytes):=by omega
 have hd1:=hf w.drew rfl;have hd2:=ho w.drew rfl
 have harr:(Array.mk olds++Array.mk news++Builtin.zeroCells z.cells (grownCap w (n+m) cap e-(n+m)))=⟨olds++news++(Builtin.zeroCells z.cells (grownCap w (n+m) cap e-(n+m))).toList⟩:=by
  apply Array.ext';simp
 have hdraw:(choose (.appendCap (n+m) cap e)).run P w= .ok (grownCap w (n+m) cap e) w.drew:=by
  simp[grownCap,Question.forced]
 rw[<-harr];rcases hu with⟨q,hu⟩|hu
 ·simp[Builtin.append_,Z3 ht,Z3 hu,Zq hi,W8 hi,XW hi hz,hn,h1,h2,h3,hd1,hd2,newRow,Question.forced,grownCap];try(congr 2;apply Array.ext';simp)
 ·simp[Builtin.append_,Z3 ht,Z3 hu,Zq hi,W8 hi,XW hi hz,hn,h1,h2,h3,hd1,hd2,newRow,Question.forced,grownCap];try(congr 2;apply Array.ext';simp)
theorem Z2U{P:Program}{w:World}{t u e:TypeId}{i:TypeInfo}{ty:TypeId}{g n cap m:Nat}{arr:Array Value}{tt:TypeId}{fz:Nat×Nat}{xv:Value}{news:List Value}(ht:P.underlying t=some (.slice e))(hu:(∃q,P.underlying u=some (.slice q))\/P.underlying u=some .string)(hi:P.info? e=some i)
 (hn:∀w',(Builtin.lenOf xv).run P w'= .ok m w') (hf:∀w',w'.heap=w.heap->(Builtin.firstCells i.size m xv).run P w'= .ok ⟨news⟩ w')
 (hg:w.heap[g]?=some (.cells arr tt fz)) (huf:Vm arr.size fz) (h1:∀u∈news,u.oneCell'=true) (hroom:n+m<=cap) (hfit:n*i.size+news.length<=arr.size):
 (Builtin.append_ #[t,u] ty #[.slice (some ⟨g,0,none⟩) n cap,xv]).run P w= .ok (.slice (some ⟨g,0,none⟩) (n+m) cap) (w.setRow g (arr.toList.take (n*i.size)++news++arr.toList.drop (n*i.size+news.length)).toArray):=by
 have hd1:=hf w rfl;have hst:=X3 (P:=P) g (n*i.size) tt fz news 0 arr w hg (by simpa using hfit) huf h1;simp only[Nat.add_zero]at hst;have hadd:(⟨g,0,none⟩:Addr).add (n*i.size)=⟨g,n*i.size,none⟩:=by rw[Addr.add_lit,Nat.zero_add]
 rcases hu with⟨q,hu⟩|hu
 ·simp[Builtin.append_,Z3 ht,Z3 hu,Zq hi,hn,hroom,hd1,hadd,hst]
 ·simp[Builtin.append_,Z3 ht,Z3 hu,Zq hi,hn,hroom,hd1,hadd,hst]
theorem Z2V{P:Program}{w:World}{t u e:TypeId}{i:TypeInfo}{ty:TypeId}{xv:Value}(ht:P.underlying t=some (.slice e))(hu:(∃q,P.underlying u=some (.slice q))\/P.underlying u=some .string)(hi:P.info? e=some i)
 (hn:∀w',(Builtin.lenOf xv).run P w'= .ok 0 w') (hf:∀w',w'.heap=w.heap->(Builtin.firstCells i.size 0 xv).run P w'= .ok ⟨[]⟩ w'):
 (Builtin.append_ #[t,u] ty #[.slice none 0 0,xv]).run P w= .ok (.slice none 0 0) w:=by
 have hd1:=hf w rfl;rcases hu with⟨q,hu⟩|hu
 ·simp[Builtin.append_,Z3 ht,Z3 hu,Zq hi,hn,hd1]
 ·simp[Builtin.append_,Z3 ht,Z3 hu,Zq hi,hn,hd1]
theorem Z2W{η:Env}{es:Nat}{z:List SV}{zs:List Value}(hz:DenL η z zs)(hl:zs.length=es):∀n,DenLL η es (List.replicate n z) (XT zs n)
 |0=>by simp[DenLL,XT]
 |n+1=>by
  rw[List.replicate_succ,Z4D];simp only[DenLL];exact⟨zs,XT zs n,rfl,hl,hz,Z2W hz hl n⟩
theorem Z6K{P:Program}{w:World}{t u e:TypeId}{i:TypeInfo}{z:Value}{ty:TypeId}{k kk:IntKind}{n:Int}(ht:P.underlying t=some (.slice e))(hu:P.underlying u=some (.int k))(hi:P.info? e=some i)(hz:i.zero=some z)(hs:0<i.size)
 (h0:0<n) (h63:n<=9223372036854775807) (hby:n.toNat*i.bytes<=140737488355328):
 (Builtin.append_ #[t,u] ty #[.slice none 0 0, .int kk n]).run P w= .ok (.slice (some ⟨w.heap.size,0,none⟩) n.toNat (grownCap w n.toNat 0 e))
   (w.drew.alloc (.cells ⟨(Builtin.zeroCells z.cells n.toNat).toList++(Builtin.zeroCells z.cells (grownCap w n.toNat 0 e-n.toNat)).toList⟩ e)):=by
 obtain⟨m,rfl⟩:∃m:Nat,n=(m:Int):=⟨n.toNat,by omega⟩;simp only[Int.toNat_natCast]at hby⊢;have hw:IntKind.i64.wrap (m:Int)=m:=IntWalk.i64_in _ ⟨by omega,by omega⟩;have hcap:=Z0k (need:=m) (old:=0) (bytes:=i.bytes) (by omega) (Z9y hby);have h1:¬(281474976710656< (m:Int)*(i.bytes:Int)):=by rw[<-Int.natCast_mul];omega
 have h2:¬(281474976710656<Builtin.nextslicecap m 0*i.bytes):=by omega
 have h3:¬m=0:=by omega
 have h4:¬i.size=0:=by omega
 have h7:¬m*i.size=0:=Nat.mul_ne_zero h3 h4;have h5:¬(9223372036854775807< (m:Int)):=by omega
 have h6:¬((m:Int)<0):=by omega
 simp[Builtin.append_,Z3 ht,Z3 hu,Zq hi,W8 hi,XW hi hz,asInt,asIntOf,hw,h1,h2,h3,h4,h5,h6,h7,newRow,Question.forced,grownCap,Builtin.firstCells];try(congr 2;apply Array.ext';simp)
theorem Z5p{P:Program}{w:World}{t u e:TypeId}{i:TypeInfo}{ty:TypeId}{k kk:IntKind}(ht:P.underlying t=some (.slice e))(hu:P.underlying u=some (.int k))(hi:P.info? e=some i):
 (Builtin.append_ #[t,u] ty #[.slice none 0 0, .int kk 0]).run P w= .ok (.slice none 0 0) w:=by
 have hw:IntKind.i64.wrap 0=0:=IntWalk.i64_in _ ⟨by omega,by omega⟩;simp[Builtin.append_,Z3 ht,Z3 hu,Zq hi,W8 hi,asInt,asIntOf,hw]
theorem Z9z{P:Program}{nx es:Nat}{t u e:TypeId}{ie:TypeInfo}{z sv xv:Value}{base:Option Addr}{n cap m b:Nat}{olds news:List Value}{rs xs:List (List SV)}(hη:η.length=nx)(hd:P.underlying t=some (.slice e))(hu:(∃q,P.underlying u=some (.slice q))\/P.underlying u=some .string)(h1:P.info? e=some ie)(h2:ie.zero=some z)(hies:ie.size=es)(hieb:ie.bytes=b)(hzl:z.cells.size=es)
 (hsv:sv= .slice base n cap) (N:News P w η es xs m xv news) (hroom:cap<n+m) (h63:n+m<=9223372036854775807) (hby:min (2*(n+m)) ((n+m)+(n+m)/4+192)*b<=281474976710656)
 (ho:∀w',w'.heap=w.heap->(Builtin.firstCells es n (.slice base n cap)).run P w'= .ok ⟨olds⟩ w') (hol:DenLL η es rs olds) (ho1:∀u∈olds,u.oneCell'=true) (hrl:rs.length=n) (hxl:xs.length=m):
 ∃z' w' cap' arr T fz,(Builtin.append_ #[t,u] ty #[sv,xv]).run P w= .ok z' w'/\w'.heap=w.heap.push (.cells arr T fz)/\(w'.os=w.os/\w'.tape=w.tape/\w'.output=w.output/\w.drawn<=w'.drawn)/\
  Den (η++ [some ⟨w.heap.size,0,cap'⟩]) (.sl (.loc nx) 0 es (n+m) none) z'/\RowsSat (η++ [some ⟨w.heap.size,0,cap'⟩]) w' true (.loc nx) es (rs++xs)/\∀(k:Nat) u,olds[k]?=some u->arr[k]?=some u:=by
 have hge:=grownCap_ge w (n+m) cap e;have hrun:=Z8p (P:=P) (ty:=ty) (base:=base) (i:=ie) hd hu h1 h2 N.lenOf (by rw[hies];exact N.first) (by rw[hies];exact ho) hroom h63 (by rw[hieb];exact hby);rw[<-hsv]at hrun;have hLL:=Z1E hol N.den;have hlen:=V2 hLL
 have hone:∀u∈olds++news,u.oneCell'=true:=by
  intro u hu;rcases List.mem_append.1 hu with hu|hu
  ·exact ho1 u hu
  ·exact N.one u hu
 have hra:=Xe hLL hone;refine⟨_,_,grownCap w (n+m) cap e,_,e,(0,0),hrun,rfl,⟨rfl,rfl,rfl,Nat.le_succ _⟩,UK hη hge,?_,fun k u hk=>?_⟩
 ·right
  have hszz:(olds++news++(Builtin.zeroCells z.cells (grownCap w (n+m) cap e-(n+m))).toList).length=grownCap w (n+m) cap e*es:=by
   rw[List.length_append,hlen,List.length_append,hrl,hxl,Array.length_toList,size_zeroCells,hzl,<-Nat.add_mul];congr 1;omega
  refine⟨_,_,e,(0,0),ZL hη _,Yy (w:=w) (w':=w.drew.alloc _) rfl,fun _=>⟨W9 _,hszz,?_,rfl⟩,?_⟩
  ·rw[List.length_append,hrl,hxl];exact hge
  ·intro k row hk;obtain⟨p1,p2⟩:=hra k row hk;refine⟨p1,fun j sv' hj=>?_⟩;obtain⟨y,p3,p4,p5⟩:=p2 j sv' hj;refine⟨y,?_,p4,p5.mono (List.prefix_append _ _)⟩;have hlt:=(Array.getElem?_eq_some_iff.1 p3).1;simp only[List.getElem?_toArray];rw[List.getElem?_append_left (by simpa using hlt)];simpa using p3
 ·have hlt:=(List.getElem?_eq_some_iff.1 hk).1;simp only[List.getElem?_toArray,List.append_assoc];rw[List.getElem?_append_left hlt];exact hk
structure Grown(η:Env)(w:World)(i es n:Nat)(w':World)(x:Option Ent):Prop where
 os:w'.os=w.os
 tape:w'.tape=w.tape
 output:w'.output=w.output
 drawn:w.drawn<=w'.drawn
 size:w.heap.size<=w'.heap.size
 hold:∀k,k<w.heap.size->(∀e,η[i]?=some (some e)->e.g≠k)->w'.heap[k]?=w.heap[k]?
 blk:∀e,x=some e->e.base=0/\(η[i]?=some (some e)\/e.g=w.heap.size)
 cells:∀e o a b,x=some e->w'.heap[e.g]?=some o->a<n->b<es->∃e0 o0,η[i]?=some (some e0)/\w.heap[e0.g]?=some o0/\ZF o es a b=ZF o0 es a b
theorem HeapOK.moved(H:HeapOK M η w O nx){i es n:Nat}{h h':Hp}(hi:lkp i O=some h){w':World}{x:Option Ent}(G:Grown η w i es n w' x)(hs:HpSat (η++ [x]) w' true (.loc nx) h')
 (hf:∀k,feet (η++ [x]) w' (.loc nx) h' k->feet η w (.loc i) h k\/w.heap.size<=k):HeapOK M (η++ [x]) w' ((nx,h')::delK i O) (nx+1):=by
 have hpre:η<+:η++ [x]:=List.prefix_append _ _;have hold:∀k,k<w.heap.size->¬feet η w (.loc i) h k->w'.heap[k]?=w.heap[k]?:=fun k hk hn=>G.hold k hk fun e he hek=>hn (hek▸feet.own he)
 have back:∀{j g},lkp j (delK i O)=some g->j≠i/\lkp j O=some g:=fun{j g} hj=>by
  have hne:j≠i:=fun e=>by subst e;rw[Yw]at hj;cases hj
  exact⟨hne,by rw[<-Vn i O j hne];exact hj⟩
 have keep:∀{j g},lkp j (delK i O)=some g->∀k,feet η w (.loc j) g k->w'.heap[k]?=w.heap[k]?:=fun{j g} hj k f=>hold k ((H.own.1 j g (back hj).2).1.feet_lt f) fun f'=>H.own.2 j i g h k (back hj).2 hi (back hj).1 f f';have bk:∀{j g},lkp j (delK i O)=some g->∀k,feet (η++ [x]) w' (.loc j) g k->feet η w (.loc j) g k:=fun{j g} hj k f=>H.stands hpre (back hj).2 (keep hj) f;refine{pre:=H.pre.trans hpre,len:=by simp[H.len],sok:=H.sok,own:=⟨fun j g hj=>?_,fun j j' g g' k hj hj' hne f f'=>?_⟩,fr:=⟨G.os.trans H.fr.os,G.tape.trans H.fr.tape,G.output.trans H.fr.output,Nat.le_trans H.fr.drawn G.drawn,Nat.le_trans H.fr.size G.size,fun k hk hF=>?_⟩}
 ·rw[Z6]at hj;split at hj
  ·rename_i hq;subst hq;injection hj with hj;subst hj
   refine⟨hs,fun k f=>(hf k f).elim (fun f=>(H.own.1 i h hi).2 k f) fun hk=> .inr (Nat.le_trans H.fr.size hk)⟩
  ·exact⟨((H.own.1 j g (back hj).2).1.keep (keep hj)).mono hpre,fun k f=>(H.own.1 j g (back hj).2).2 k (bk hj k f)⟩
 ·have other:∀{a g},lkp a (delK i O)=some g->feet (η++ [x]) w' (.loc a) g k->feet (η++ [x]) w' (.loc nx) h' k->False:=fun{a g} ha f f'=>by
   have f:=bk ha k f;rcases hf k f' with f'|hk
   ·exact H.own.2 a i g h k (back ha).2 hi (back ha).1 f f'
   ·have:=(H.own.1 a g (back ha).2).1.feet_lt f;omega
  rw[Z6]at hj hj';split at hj
  ·rename_i hq;subst hq;injection hj with hj;subst hj
   rw[if_neg (Ne.symm hne)]at hj';exact other hj' f' f
  ·split at hj'
   ·rename_i hq;subst hq;injection hj' with hj';subst hj'
    exact other hj f f'
   ·exact H.own.2 j j' g g' k (back hj).2 (back hj').2 hne (bk hj k f) (bk hj' k f')
 ·rw[hold k (Nat.lt_of_lt_of_le hk H.fr.size) fun f=>?_]
  ·exact H.fr.block k hk hF
  ·rcases(H.own.1 i h hi).2 k f with h|h
   ·exact hF h
   ·omega
theorem Zc7{a b n es:Nat}(ha:a<n)(hb:b<es):a*es+b<n*es:=by
 have:=Nat.mul_le_mul_right es (show a+1<=n from ha);rw[Nat.succ_mul]at this;omega
theorem Z6L{P:Program}{i es:Nat}{t u e:TypeId}{ie:TypeInfo}{z sv xv:Value}{n m b:Nat}{news:List Value}{rs xs:List (List SV)}(hη:η.length=nx)(hd:P.underlying t=some (.slice e))(hu:(∃q,P.underlying u=some (.slice q))\/P.underlying u=some .string)(h1:P.info? e=some ie)(h2:ie.zero=some z)(hies:ie.size=es)(hieb:ie.bytes=b)(hzl:z.cells.size=es)
 (hsd:Den η (.sl (.loc i) 0 es n none) sv) (hsat:RowsSat η w true (.loc i) es rs) (N:News P w η es xs m xv news) (q1:xs.length=m) (q2:n<=rs.length) (q3:n+m<=9223372036854775807) (q4:min (2*(n+m)) ((n+m)+(n+m)/4+192)*b<=281474976710656):
 ∃z' w' x,(Builtin.append_ #[t,u] ty #[sv,xv]).run P w= .ok z' w'/\Den (η++ [x]) (.sl (.loc nx) 0 es (n+m) none) z'/\RowsSat (η++ [x]) w' true (.loc nx) es (rs.take n++xs)/\Grown η w i es n w' x:=by
 have newarr:∀{base:Option Addr} {cap:Nat} {olds:List Value} {rs:List (List SV)},sv= .slice base n cap->cap<n+m->(∀w',w'.heap=w.heap->(Builtin.firstCells es n (.slice base n cap)).run P w'= .ok ⟨olds⟩ w')->DenLL η es rs olds->(∀u∈olds,u.oneCell'=true)->rs.length=n->
  (∀a b,a<n->b<es->∃e0 o0 v,η[i]?=some (some e0)/\w.heap[e0.g]?=some o0/\ZF o0 es a b=some v/\olds[a*es+b]?=some v)->
  ∃z' w' x,(Builtin.append_ #[t,u] ty #[sv,xv]).run P w= .ok z' w'/\Den (η++ [x]) (.sl (.loc nx) 0 es (n+m) none) z'/\RowsSat (η++ [x]) w' true (.loc nx) es (rs++xs)/\Grown η w i es n w' x:=by
  intro base cap olds rs hsv hroom ho hol ho1 hrl hc;obtain⟨z',w',cap',arr,T,fz,p1,p2,⟨p3,p4,p5,p6⟩,p7,p8,p9⟩:=Z9z (ty:=ty) hη hd hu h1 h2 hies hieb hzl hsv N hroom q3 q4 ho hol ho1 hrl q1;refine⟨z',w',_,p1,p7,p8,⟨p3,p4,p5,p6,by rw[p2];simp,fun k hk _=>?_,fun e he=>?_,fun e o a b he ho ha hb=>?_⟩⟩
  ·rw[p2,Array.getElem?_push,if_neg (by omega)]
  ·injection he with he;subst he;exact⟨rfl, .inr rfl⟩
  ·injection he with he;subst he;rw[Yy p2]at ho;injection ho with ho;subst ho
   obtain⟨e0,o0,v,g1,g2,g3,g4⟩:=hc a b ha hb;exact⟨e0,o0,g1,g2,by rw[g3];exact p9 _ _ g4⟩
 have none0:m=0->xs=[]/\news=[]:=fun hm0=>by
  subst hm0;exact⟨List.length_eq_zero_iff.1 q1,by apply List.length_eq_zero_iff.1;rw[N.len];omega⟩
 have still:∀{x:Option Ent},(∀e,x=some e->e.base=0/\η[i]?=some (some e))->n=0->Grown η w i es n w x:=fun{x} hx hn=>
  ⟨rfl,rfl,rfl,Nat.le_refl _,Nat.le_refl _,fun _ _ _=>rfl,fun e he=>⟨(hx e he).1, .inl (hx e he).2⟩,fun e o a b _ _ ha=>by omega⟩
 simp only[Den,Env.get]at hsd;unfold RowsSat at hsat;simp only[Env.get]at hsat;rcases hsd with⟨p1,hsv,p3⟩|⟨en,o,p1,hsv,p3,p4,p5⟩
 ·rcases hsat with⟨p6,rfl⟩|⟨en',arr,T,fz,p6,_⟩
  case inr=>rw[p1]at p6;cases p6
  subst p3;by_cases hm0:m=0
  ·subst hm0;obtain⟨rfl,rfl⟩:=none0 rfl;have hrun:=Z2V (P:=P) (ty:=ty) (w:=w) (i:=ie) hd hu h1 N.lenOf (by rw[hies];exact N.first);rw[<-hsv]at hrun;exact⟨_,w,none,hrun,Or.inl ⟨ZL hη _,hsv,rfl⟩,Or.inl ⟨ZL hη _,rfl⟩,still (fun e h=>by cases h) rfl⟩
  ·exact newarr (rs:=[]) (olds:=[]) hsv (by omega) (fun w' _=>rfl) (by simp[DenLL]) (by simp) rfl (fun a b ha=>by omega)
 ·rcases hsat with⟨p6,_⟩|⟨en',arr,T,fz,p6,p7,p8,p9⟩
  ·rw[p1]at p6;cases p6
  rw[p1]at p6;injection p6 with p6;injection p6 with p6;subst p6
  obtain⟨p8u,p8s,p8c,p8b⟩:=p8 trivial;rw[p8b]at p9;simp only[Option.getD_none]at hsv p3 p4 p5
  have p9':∀(k:Nat) (row:List SV),(rs.take n)[k]?=some row->row.length=es/\CellsAt η arr (0+k*es) row:=by
   intro k row hk;rw[List.getElem?_take]at hk;split at hk
   ·exact p9 k row hk
   ·cases hk
  have hrn:(rs.take n).length=n:=by rw[List.length_take];omega
  obtain⟨g1,g2,g3⟩:=Z8n p9';rw[hrn]at g1 g2 g3;by_cases hcap0:en.cap=0
  ·
   have hn0:n=0:=by omega
   subst hn0;by_cases hm0:m=0
   ·subst hm0;obtain⟨rfl,rfl⟩:=none0 rfl
    have hrun:(Builtin.append_ #[t,u] ty #[sv,xv]).run P w= .ok (.slice (some ⟨en.g,o,none⟩) 0 (en.cap-0)) w:=by
     have hd1:=N.first w rfl;rcases hu with⟨q,hu⟩|hu<;>simp[hsv,Builtin.append_,Z3 hd,Z3 hu,Zq h1,N.lenOf,hies,hd1,storeCells]
    refine⟨_,w,some en,hrun,?_,?_,still (fun e h=>by injection h with h;subst h;exact⟨p8b,p1⟩) rfl⟩
    ·simp only[Den];right
     exact⟨en,o,ZL hη _,by simp,by simp,by simp,fun _=>p5 (.inr trivial)⟩
    ·exact .inr ⟨en,arr,T,fz,ZL hη _,p7,fun _=>⟨p8u,p8s,by simp,p8b⟩,fun k row hk=>by simp at hk⟩
   ·exact newarr (rs:=[]) (olds:=[]) hsv (by omega) (fun w' _=>by simp[Builtin.firstCells,loadCells,loadCellsFrom]) (by simp[DenLL]) (by simp) rfl (fun a b ha=>by omega)
  ·have ho:=p5 (.inl (by omega));rw[p8b]at ho;simp only[Nat.zero_mul,Nat.add_zero]at ho;subst ho;by_cases hroom:n+m<=en.cap
   ·obtain⟨r1,r2⟩:=Z0j p8s (r:=n) (by omega) (by rw[hrn];exact Nat.le_refl _) p9' N.den N.one;have hrun:=Z2U (P:=P) (ty:=ty) (w:=w) (i:=ie) (cap:=en.cap) hd hu h1 N.lenOf (by rw[hies];exact N.first) p7 p8u N.one hroom (by rw[hies];exact r1);rw[show Value.slice (some ⟨en.g,0,none⟩) n en.cap=sv by rw[hsv];simp]at hrun;rw[hies]at hrun
    have hsz':(arr.toList.take (n*es)++news++arr.toList.drop (n*es+news.length)).toArray.size=arr.size:=by
     simp only[List.size_toArray,List.length_append,List.length_take,List.length_drop,Array.length_toList];omega
    have hnew:=setRow_heap w en.g arr (arr.toList.take (n*es)++news++arr.toList.drop (n*es+news.length)).toArray T fz p7
    refine⟨_,_,some en,hrun,?_, .inr ⟨en,_,T,fz,ZL hη _,hnew,fun _=>⟨by rw[hsz'];exact p8u,by rw[hsz'];exact p8s,by rw[List.length_append,hrn,q1];omega,p8b⟩,fun k q hk=>?_⟩,
     ⟨rfl,rfl,rfl,Nat.le_refl _,by rw[setRow_size];exact Nat.le_refl _,fun k _ hk=>setRow_other w en.g k _ (hk en p1).symm,fun e h=>by injection h with h;subst h;exact⟨p8b, .inl p1⟩,fun e o a b he ho ha hb=>?_⟩⟩
    ·simp only[Den];right
     exact⟨en,0,ZL hη _,by simp,by simpa using hroom,by simp,fun _=>by simp[p8b]⟩
    ·rw[p8b]
     obtain⟨p1,p2⟩:=r2 k q (by
      rw[List.take_take,Nat.min_self];rw[List.getElem?_append_left (List.getElem?_eq_some_iff.1 hk).1]
      exact hk)
     exact⟨p1,p2.mono (List.prefix_append _ _)⟩
    ·injection he with he;subst he;rw[hnew]at ho;injection ho with ho;subst ho
     refine⟨_,_,p1,p7,?_⟩;have hlt:=Zc7 ha hb;simp only[ZF,List.getElem?_toArray,List.append_assoc];rw[List.getElem?_append_left (by rw[List.length_take,Array.length_toList];omega),List.getElem?_take,if_pos hlt];simp
   ·refine newarr (rs:=rs.take n) hsv (by omega) (fun w' hw'=>?_) g1 g3 hrn (fun a b ha hb=>?_)
    ·have hcell:∀j u,((arr.toList.drop 0).take (n*es))[j]?=some u->w'.cell? ((⟨en.g,0,none⟩:Addr).add j)=some u:=by
      intro j u hj;rw[List.getElem?_take]at hj;split at hj
      ·rw[List.getElem?_drop]at hj;rw[Addr.add_lit,Z6J hw'];simp only[World.cell?,p7];simpa using hj
      ·cases hj
     exact run_firstCells_some (P:=P) w' es n ⟨en.g,0,none⟩ n _ _ g2 hcell
    ·have hlt:=Zc7 ha hb
     have hin:a*es+b<arr.size:=by
      have:n*es<=en.cap*es:=Nat.mul_le_mul_right _ (by omega);omega
     refine⟨en,_,arr[a*es+b],p1,p7,by simp[ZF,hin],?_⟩;rw[List.getElem?_take,if_pos hlt];simp[hin]
theorem Zec{P:Program}{i es l:Nat}{t u e:TypeId}{ie:TypeInfo}{sv xv:Value}{n m:Nat}{news:List Value}{rs xs:List (List SV)}(hd:P.underlying t=some (.slice e))(hu:(∃q,P.underlying u=some (.slice q))\/P.underlying u=some .string)(h1:P.info? e=some ie)(hies:ie.size=es)
 (hsd:Den η (.sl (.loc i) 0 es n (some l)) sv) (hsat:RowsSat η w true (.loc i) es rs) (N:News P w η es xs m xv news) (q1:xs.length=m) (q0:0<n) (q2:n<=rs.length) (q3:n+m<=l):
 ∃z' w' en,(Builtin.append_ #[t,u] ty #[sv,xv]).run P w= .ok z' w'/\Den η (.sl (.loc i) 0 es (n+m) (some l)) z'/\η[i]?=some (some en)/\(∀k,k≠en.g->w'.heap[k]?=w.heap[k]?)/\w'.heap.size=w.heap.size/\w'.os=w.os/\w'.tape=w.tape/\w'.output=w.output/\w.drawn<=w'.drawn/\
  RowsSat η w' true (.loc i) es (rs.take n++xs):=by
 simp only[Den,Env.get]at hsd;unfold RowsSat at hsat;simp only[Env.get]at hsat;rcases hsd with⟨p1,hsv,p3⟩|⟨en,o,p1,hsv,p3,p4,p5⟩
 ·omega
 rcases hsat with⟨p6,_⟩|⟨en',arr,T,fz,p6,p7,p8,p9⟩
 ·rw[p1]at p6;cases p6
 rw[p1]at p6;injection p6 with p6;injection p6 with p6;subst p6
 obtain⟨p8u,p8s,p8c,p8b⟩:=p8 trivial;rw[p8b]at p9;simp only[Option.getD_some]at hsv p3 p4 p5
 have p9':∀(k:Nat) (row:List SV),(rs.take n)[k]?=some row->row.length=es/\CellsAt η arr (0+k*es) row:=by
  intro k row hk;rw[List.getElem?_take]at hk;split at hk
  ·exact p9 k row hk
  ·cases hk
 have hrn:(rs.take n).length=n:=by rw[List.length_take];omega
 have ho:=p5 (.inr trivial);rw[p8b]at ho;simp only[Nat.zero_mul,Nat.add_zero]at ho;subst ho;obtain⟨r1,r2⟩:=Z0j p8s (r:=n) (by omega) (by rw[hrn];exact Nat.le_refl _) p9' N.den N.one;have hrun:=Z2U (P:=P) (ty:=ty) (w:=w) (i:=ie) (cap:=l) hd hu h1 N.lenOf (by rw[hies];exact N.first) p7 p8u N.one q3 (by rw[hies];exact r1);rw[show Value.slice (some ⟨en.g,0,none⟩) n l=sv by rw[hsv];simp]at hrun;rw[hies]at hrun
 have hsz':(arr.toList.take (n*es)++news++arr.toList.drop (n*es+news.length)).toArray.size=arr.size:=by
  simp only[List.size_toArray,List.length_append,List.length_take,List.length_drop,Array.length_toList];omega
 have hnew:=setRow_heap w en.g arr (arr.toList.take (n*es)++news++arr.toList.drop (n*es+news.length)).toArray T fz p7;refine⟨_,_,en,hrun,?_,p1,fun k hk=>setRow_other w en.g k _ hk,setRow_size _ _ _,rfl,rfl,rfl,Nat.le_refl _, .inr ⟨en,_,T,fz,p1,hnew,fun _=>⟨by rw[hsz'];exact p8u,by rw[hsz'];exact p8s,by rw[List.length_append,hrn,q1];omega,p8b⟩,fun k q hk=>?_⟩⟩
 ·simp only[Den];right
  exact⟨en,0,p1,by simp,by simpa using q3,by simpa using p4,fun _=>by simp[p8b]⟩
 ·rw[p8b]
  exact r2 k q (by
   rw[List.take_take,Nat.min_self];rw[List.getElem?_append_left (List.getElem?_eq_some_iff.1 hk).1]
   exact hk)
theorem Zed{T:Tab}{e:TypeId}{s:SV}{es:Nat}{rows:List (List SV)}(h:appV T e s= .kid es rows):s= .val (.slice none 0 0)/\rows=[]:=by
 unfold appV at h;split at h
 ·split at h
  ·injection h with _ h;exact⟨rfl,h.symm⟩
  ·cases h
 ·cases h
theorem Zee{T:Tab}{e:TypeId}{s:SV}{v:Value}(h:Den η s v):Den η (ZN (appV T e s)) v:=by
 unfold appV;split
 ·split
  ·simp only[ZN,Den]
  ·exact h
 ·exact h
theorem HeapOK.grownD(H:HeapOK M η w O nx){i es n:Nat}{rs:List (List DC)}{xs:List (List SV)}{T:Tab}{e:TypeId}(hi:lkp i O=some (.deep false es rs))(hn:n<=rs.length){w':World}{x:Option Ent}(G:Grown η w i es n w' x)
 (hs:RowsSat (η++ [x]) w' true (.loc nx) es ((Zs rs).take n++xs)):HeapOK M (η++ [x]) w' ((nx, .deep false es (rs.take n++xs.map fun row=>row.map (appV T e)))::delK i O) (nx+1):=by
 have hpre:η<+:η++ [x]:=List.prefix_append _ _;obtain⟨hsat,_⟩:=H.own.1 i _ hi;obtain⟨_,hD,_⟩:=hsat.deep_ent;have hnx:=ZL H.len x
 have kids:∀{e1 o a b y},x=some e1->w'.heap[e1.g]?=some o->Yd (rs.take n++xs.map fun row=>row.map (appV T e)) a b=some y->
  (∃e0 o0,η[i]?=some (some e0)/\w.heap[e0.g]?=some o0/\Yd rs a b=some y/\ZF o es a b=ZF o0 es a b)\/(y.2=[]/\ZF o es a b=some (.slice none 0 0)):=by
  intro e1 o a b y hx ho hk;subst hx;obtain⟨y1,y2⟩:=y;obtain⟨row,k1,k2⟩:=kidAt_some.1 hk;rcases hs with⟨h1,_⟩|⟨e',arr,T',fz,h1,h2,h3,h4⟩
  ·rw[hnx]at h1;cases h1
  rw[hnx]at h1;injection h1 with h1;injection h1 with h1;subst h1
  rw[h2]at ho;injection ho with ho;subst ho
  obtain⟨_,_,_,hb0⟩:=h3 rfl;rw[hb0]at h4;by_cases ha:a<n
  ·have htl:(rs.take n).length=n:=by rw[List.length_take];omega
   rw[List.getElem?_append_left (by omega),List.getElem?_take,if_pos ha]at k1
   have hfl:((Zs rs).take n++xs)[a]?=some (row.map ZN):=by
    rw[List.getElem?_append_left (by rw[List.length_take,Y7];omega),List.getElem?_take,if_pos ha,Y6,k1];rfl
   have hbl:=(List.getElem?_eq_some_iff.1 k2).1;have hle:=(h4 a _ hfl).1;rw[List.length_map]at hle;obtain⟨e0,o0,g1,g2,g3⟩:=G.cells _ _ a b rfl h2 ha (by omega);exact .inl ⟨e0,o0,g1,g2,kidAt_some.2 ⟨row,k1,k2⟩,g3⟩
  ·have htl:(rs.take n).length=n:=by rw[List.length_take];omega
   rw[List.getElem?_append_right (by omega),htl,List.getElem?_map]at k1;obtain⟨row0,k3,rfl⟩:=Option.map_eq_some_iff.1 k1;rw[List.getElem?_map]at k2;obtain⟨s,k4,k5⟩:=Option.map_eq_some_iff.1 k2;obtain⟨rfl,rfl⟩:=Zed k5
   have hfl:((Zs rs).take n++xs)[a]?=some row0:=by
    have htl':((Zs rs).take n).length=n:=by rw[List.length_take,Y7];omega
    rw[List.getElem?_append_right (by omega),htl'];exact k3
   obtain⟨v,q1,_,q2⟩:=(h4 a _ hfl).2 b _ k4;rw[Nat.zero_add]at q1;have q2:v= .slice none 0 0:=q2.1;exact .inr ⟨rfl,by rw[<-q2];exact q1⟩
 have kidlt:∀{e0 o0 a b y v k},η[i]?=some (some e0)->w.heap[e0.g]?=some o0->Yd rs a b=some y->ZF o0 es a b=some v->v.ownBlock=some k->k<w.heap.size/\k≠e0.g/\feet η w (.loc i) (.deep false es rs) k:=by
  intro e0 o0 a b y v k g1 g2 g3 g4 g5;obtain⟨y1,y2⟩:=y;obtain⟨v',f1,f2,f3⟩:=((hD e0 g1).2 o0 g2).sat a b _ _ g3;rw[g4]at f1;injection f1 with f1;subst f1
  have ff:feet η w (.loc i) (.deep false es rs) k:=⟨e0,g1, .inr (by simp only[kid];exact⟨o0,a,b,_,v,g2,g3,g4,g5⟩)⟩;exact⟨hsat.feet_lt ff,fun h=>f3 (h▸g5),ff⟩
 refine H.moved hi G ?_ fun k f=>?_
 ·refine HpSat.deep_of (mp:=false) ?_ (fun h=>by cases h) fun e1 he=>?_
  ·show RowsSat _ _ _ _ _ _
   unfold RowsSat at hs⊢
   have hfe:∀(j:Nat) (row:List SV),(Zs (rs.take n++xs.map fun row=>row.map (appV T e)))[j]?=some row->∃row1,((Zs rs).take n++xs)[j]?=some row1/\(row=row1\/row=row1.map fun s=>ZN (appV T e s)):=by
    intro j row hj;unfold Zs at hj⊢;rw[List.map_append,List.map_take]at hj;by_cases hjl:j< ((rs.map fun r=>r.map ZN).take n).length
    ·rw[List.getElem?_append_left hjl]at hj⊢;exact⟨row,hj, .inl rfl⟩
    ·rw[List.getElem?_append_right (by omega)]at hj⊢;rw[List.map_map,List.getElem?_map]at hj;obtain⟨row1,q1,q2⟩:=Option.map_eq_some_iff.1 hj;refine⟨row1,q1, .inr ?_⟩;rw[<-q2];simp[Function.comp]
   have hll:(Zs (rs.take n++xs.map fun row=>row.map (appV T e))).length=((Zs rs).take n++xs).length:=by simp[Zs]
   rcases hs with⟨h1,h2⟩|⟨e',arr,T',fz,h1,h2,h3,h4⟩
   ·exact .inl ⟨h1,List.length_eq_zero_iff.1 (by rw[hll,h2];rfl)⟩
   ·refine .inr ⟨e',arr,T',fz,h1,h2,fun h=>by rw[hll];exact h3 h,fun j row hj=>?_⟩;obtain⟨row1,q1,q2⟩:=hfe j row hj;obtain⟨q3,q4⟩:=h4 j row1 q1;rcases q2 with rfl|rfl
    ·exact⟨q3,q4⟩
    ·refine⟨by rw[List.length_map];exact q3,fun c sv hc=>?_⟩;rw[List.getElem?_map]at hc;obtain⟨s,q5,rfl⟩:=Option.map_eq_some_iff.1 hc;obtain⟨v,q6,q7,q8⟩:=q4 c s q5;exact⟨v,q6,q7,Zee q8⟩
  ·rw[hnx]at he;injection he with he;obtain⟨hb0,hbl⟩:=G.blk e1 he;refine⟨hb0,fun o ho=>⟨fun a b es' rows hk=>?_,fun a b a' b' y y' v v' k k1 k2 k3 k4 k5 k6=>?_⟩⟩
   ·rcases kids he ho hk with⟨e0,o0,g1,g2,g3,g4⟩|⟨g1,g2⟩
    ·obtain⟨v,f1,f2,f3⟩:=((hD e0 g1).2 o0 g2).sat a b _ _ g3;refine⟨v,g4.trans f1,(f2.keep fun k hk=>?_).mono hpre,fun h=>?_⟩
     ·obtain⟨l1,l2,_⟩:=kidlt g1 g2 g3 f1 hk;exact G.hold k l1 fun e2 h2=>by rw[g1]at h2;injection h2 with h2;injection h2 with h2;subst h2;exact l2.symm
     ·obtain⟨l1,l2,_⟩:=kidlt g1 g2 g3 f1 h;rcases hbl with hbl|hbl
      ·rw[g1]at hbl;injection hbl with hbl;injection hbl with hbl;subst hbl;exact l2 rfl
      ·omega
    ·simp only at g1;subst g1;exact⟨_,g2, .inl ⟨rfl,rfl⟩,by simp[Value.ownBlock]⟩
   ·rcases kids he ho k1 with⟨e0,o0,g1,g2,g3,g4⟩|⟨_,g2⟩
    ·rcases kids he ho k2 with⟨e0',o0',g1',g2',g3',g4'⟩|⟨_,g2'⟩
     ·rw[g1]at g1';injection g1' with g1';injection g1' with g1';subst g1'
      rw[g2]at g2';injection g2' with g2';subst g2'
      exact((hD e0 g1).2 o0 g2).ne a b a' b' y y' v v' k g3 g3' (g4▸k3) (g4'▸k4) k5 k6
     ·rw[g2']at k4;injection k4 with k4;subst k4;cases k6
    ·rw[g2]at k3;injection k3 with k3;subst k3;cases k5
 ·obtain⟨e1,f1,f2⟩:=f;rw[hnx]at f1;injection f1 with f1;rcases f2 with rfl|f2
  ·rcases(G.blk e1 f1).2 with h|h
   ·exact .inl (feet.own h)
   ·exact .inr (by omega)
  ·simp only[kid]at f2;obtain⟨o,a,b,y,v,f3,f4,f5,f6⟩:=f2;rcases kids f1 f3 f4 with⟨e0,o0,g1,g2,g3,g4⟩|⟨_,g2⟩
   ·exact .inl (kidlt g1 g2 g3 (g4▸f5) f6).2.2
   ·rw[g2]at f5;injection f5 with f5;subst f5;cases f6
theorem Zef(A:At M η w O nx ρ lk)(args:Array Operand)(ts:Array TypeId)(hr:(opR M.C lk O nx (.call ⟨.builtin .append,args,ts⟩)).ok O nx v O' nx'):Y3 M η w ⟨dst, .call ⟨.builtin .append,args,ts⟩,ty,pos,af,gd⟩ ρ v O' nx':=by
 simp only[opR,Vl,ZbS]at hr;split at hr
 case h_2=>exact hr.elim
 rename_i s x ha;obtain rfl:args= #[s,x]:=by apply Array.ext';simpa using ha
 split at hr
 case h_2=>exact hr.elim
 rename_i t u htu;obtain rfl:ts= #[t,u]:=by apply Array.ext';simpa using htu
 split at hr
 case h_2=>exact hr.elim
 rename_i sv hs;split at hr
 case h_2=>exact hr.elim
 rename_i xsv hx;have hsd:=A.L _ _ hs;have hxd:=A.L _ _ hx
 have fin:∀{z:Value} {w':World},(Builtin.append_ #[t,u] ty #[ρ s,ρ x]).run M.P w= .ok z w'->Z1x M.P ⟨dst, .call ⟨.builtin .append, #[s,x], #[t,u]⟩,ty,pos,af,gd⟩ ρ w z w':=by
  intro z w' h;exact .inl (by simp[execOp,resolve,invoke,builtin,h])
 have main:((∃q,M.P.underlying u=some (.slice q))\/M.P.underlying u=some .string)->(Z5j M.C O nx t sv xsv).ok O nx v O' nx'->Y3 M η w ⟨dst, .call ⟨.builtin .append, #[s,x], #[t,u]⟩,ty,pos,af,gd⟩ ρ v O' nx':=by
  intro hu hr;unfold Z5j at hr;split at hr
  case h_2=>exact hr.elim
  rename_i e hst;obtain⟨d,hd,hm⟩:=A.T.und t (by rw[hst];simp);rw[hst]at hm;simp only[ShM]at hm;subst hm;split at hr
  ·exact hr.elim
  rename_i c cs hz;have hsh:M.C.T.sh e≠ .other:=A.T.zsh e (by rw[hz];simp);obtain⟨ie,z,h1,h2,h3,h4,h5,_⟩:=A.T.zero e hsh (by rw[hz];simp);rw[hz]at h3 h5;obtain⟨ie',hie,hies,hieb⟩:=A.T.info e hsh;rw[h1]at hie;injection hie with hie;subst hie
  have h3:=DenL.mono (η':=η) List.nil_prefix h3;have hzl:z.cells.size=M.C.T.size e:=by have:=ZP h3;rw[h5]at this;simpa using this
  split at hr
  ·exact hr.elim
  rename_i xs m hrows
  have newarr:∀{base:Option Addr} {n cap:Nat} {olds news:List Value} {rs:List (List SV)},ρ s= .slice base n cap->News M.P w η (M.C.T.size e) xs m (ρ x) news->cap<n+m->n+m<=9223372036854775807->min (2*(n+m)) ((n+m)+(n+m)/4+192)*M.C.T.bytes e<=281474976710656->
   (∀w',w'.heap=w.heap->(Builtin.firstCells (M.C.T.size e) n (.slice base n cap)).run M.P w'= .ok ⟨olds⟩ w')->DenLL η (M.C.T.size e) rs olds->(∀u∈olds,u.oneCell'=true)->rs.length=n->xs.length=m->
   v= .sl (.loc nx) 0 (M.C.T.size e) (n+m) none->O'=(nx, .rows (M.C.T.size e) (rs++xs))::O->nx'=nx+1->Y3 M η w ⟨dst, .call ⟨.builtin .append, #[s,x], #[t,u]⟩,ty,pos,af,gd⟩ ρ v O' nx':=by
   intro base n cap olds news rs hsv N hroom h63 hby ho hol ho1 hrl hxl e1 e2 e3;subst e1 e2 e3;obtain⟨z',w',cap',arr,T,fz,p1,p2,⟨p3,p4,p5,p6⟩,p7,p8,_⟩:=Z9z (ty:=ty) A.H.len hd hu h1 h2 hies hieb hzl hsv N hroom h63 hby ho hol ho1 hrl hxl;exact⟨_,_,_,fin p1,List.prefix_append _ _,HeapOK.alloc A.H p2 p3 p4 p5 0 _ p8 p6,p7,fun _ h=>absurd h (by simp)⟩
  split at hr
  ·obtain⟨⟨q1,q2,q3⟩,e1,e2,e3⟩:=hr;have hsv:ρ s= .slice none 0 0:=And.left hsd;obtain⟨news,N⟩:=Xm A hxd hrows q1;by_cases hm0:m=0
   ·subst hm0;have hx0:xs=[]:=List.length_eq_zero_iff.1 q1;have hn0:news=[]:=by apply List.length_eq_zero_iff.1;rw[N.len];omega
    subst hx0 hn0 e1 e2 e3;have hrun:=Z2V (P:=M.P) (ty:=ty) (w:=w) (i:=ie) hd hu h1 N.lenOf (by rw[hies];exact N.first);rw[<-hsv]at hrun;refine⟨_,w,η++ [none],fin hrun,List.prefix_append _ _,?_,?_,fun _ h=>absurd h (by simp)⟩
    ·exact A.H.name none (Or.inl ⟨ZL A.H.len _,rfl⟩) (fun e h=>by cases h) (fun e h=>by cases h)
    ·exact Or.inl ⟨ZL A.H.len _,hsv,rfl⟩
   ·refine newarr (rs:=[]) (olds:=[]) hsv N (by omega) (by omega) (Z9y (by simpa using q3)) (fun w' _=>rfl) (by simp[DenLL]) (by simp) rfl q1 (by simpa using e1) (by simpa using e2) e3
  ·rename_i i es n _;split at hr
   case h_3=>exact hr.elim
   ·rename_i es' rs hh;split at hr
    case h_2=>exact hr.elim
    rename_i hes;have hes:=Zn hes;subst hes;split at hr
    case h_2=>exact hr.elim
    rename_i hes';have hes':=Zn hes';subst hes';obtain⟨⟨q1,q2,q3,q4⟩,e1,e2,e3⟩:=hr;obtain⟨news,N⟩:=Xm A hxd hrows q1;obtain⟨z',w',x',hrun,hdz,hrs,G⟩:=Z6L (ty:=ty) A.H.len hd hu h1 h2 hies hieb hzl hsd (A.H.own.1 i _ hh).1 N q1 q2 q3 q4;subst e1 e2 e3;refine⟨_,_,_,fin hrun,List.prefix_append _ _,A.H.moved hh G hrs fun k f=>?_,hdz,fun _ h=>absurd h (by simp)⟩;obtain⟨e1,f1,f2⟩:=f;rw[ZL A.H.len]at f1;injection f1 with f1;rcases f2 with rfl|f2
    ·rcases(G.blk e1 f1).2 with h|h
     ·exact .inl (feet.own h)
     ·exact .inr (by omega)
    ·exact f2.elim
   ·rename_i es' rs hh;split at hr
    case h_2=>exact hr.elim
    rename_i hes;have hes:=Zn hes;subst hes;split at hr
    case h_2=>exact hr.elim
    rename_i hes';have hes':=Zn hes';subst hes';obtain⟨⟨q1,q2,q3,q4⟩,e1,e2,e3⟩:=hr;obtain⟨news,N⟩:=Xm A hxd hrows q1;have hsat:=(A.H.own.1 i _ hh).1;simp only[HpSat]at hsat;obtain⟨z',w',x',hrun,hdz,hrs,G⟩:=Z6L (ty:=ty) A.H.len hd hu h1 h2 hies hieb hzl hsd hsat.1 N q1 (by rw[Y7];exact q2) q3 q4;subst e1 e2 e3;exact⟨_,_,_,fin hrun,List.prefix_append _ _,A.H.grownD hh q2 G hrs,hdz,fun _ h=>absurd h (by simp)⟩
  ·rename_i b r es n l _;split at hr
   case h_2 hrs0=>
    unfold ZbM at hr;split at hr
    case h_2=>exact hr.elim
    rename_i i _;split at hr
    case h_2=>exact hr.elim
    rename_i es' ds hh;split at hr
    case h_2=>exact hr.elim
    rename_i hes;have hes:=Zn hes;subst hes;split at hr
    case h_2=>exact hr.elim
    rename_i hes';have hes':=Zn hes';subst hes';obtain⟨⟨q1,q2,q3,q4,q5,q6⟩,hr⟩:=hr;obtain⟨news,N⟩:=Xm A hxd hrows q1;have hsat:=(A.H.own.1 i _ hh).1;simp only[HpSat]at hsat;have hrows0:=hsat.1;rcases Nat.lt_or_ge l (n+m)with hlt|hlt
    ·simp only[Res.ok,decide_eq_true hlt,if_true]at hr;obtain⟨e1,e2,e3⟩:=hr
     obtain⟨en,o,g1,hsv,g2⟩:∃en o,η[i]?=some (some en)/\ρ s= .slice (some ⟨en.g,o,none⟩) n l/\n<=l:=by
      simp only[Den,Env.get]at hsd;rcases hsd with⟨_,_,h0⟩|⟨en,o,g1,g2,g3,_⟩
      ·omega
      ·simp only[Option.getD_some,Nat.sub_zero,Nat.zero_add]at g2 g3;exact⟨en,o,g1,g2,g3⟩
     have A':At M η w (setK i (.rows (M.C.T.size e) (Zs ds)) O) nx ρ lk:=⟨A.H.updF hh g1 (fun _ _=>rfl) rfl rfl rfl rfl hrows0 (Nat.le_refl _) (fun k f=>by
      rcases f.of (e:=en) (show η.get (.loc i)=some (some en)from g1)with h|h
      ·exact h▸feet.own g1
      ·exact h.elim),A.T,A.L⟩
     have hR:Z49 M.C (setK i (.rows (M.C.T.size e) (Zs ds)) O) (M.C.T.size e) (.sl (.loc i) 0 (M.C.T.size e) n (some l))=some ((Zs ds).take n,n):=by
      simp only[Z49,Yp,ZX i _ O i (by rw[hh];rfl),if_pos,Nat.beq_refl,List.drop_zero]
     have hyl:((Zs ds).take n).length=n:=by rw[List.length_take,Y7];omega
     obtain⟨olds,N2⟩:=Xm A' hsd hR hyl;refine newarr (rs:=(Zs ds).take n) (olds:=olds) hsv N hlt q5 q6 (fun w' hw'=>?_) N2.den N2.one hyl q1 e1 e2 e3;rw[<-hsv];exact N2.first w' hw'
    ·simp only[Res.ok,decide_eq_false (Nat.not_lt.2 hlt),Bool.false_eq_true,if_false]at hr;obtain⟨e1,e2,e3⟩:=hr;obtain⟨z',w',en,hrun,hdz,g1,g2,g3,g4,g5,g6,g7,g8⟩:=Zec (ty:=ty) hd hu h1 hies hsd hrows0 N q1 q2 (by rw[Y7];exact q4) (by omega);subst e1 e2 e3
     have H1:=A.H.updF (h:= .rows (M.C.T.size e) ((Zs ds).take n++xs)) hh g1 g2 g3 g4 g5 g6 g8 g7 fun k f=>by
      rcases f.of (e:=en) (show η.get (.loc i)=some (some en)from g1)with h|h
      ·exact h▸feet.own g1
      ·exact h.elim
     exact⟨_,w',η++ [none],fin hrun,List.prefix_append _ _,H1.name none (Or.inl ⟨ZL A.H.len _,rfl⟩) (fun e h=>by cases h) (fun e h=>by cases h),hdz.mono (List.prefix_append _ _),fun _ h=>absurd h (by simp)⟩
   rename_i ys n' hrs;obtain⟨⟨q0,q1,q2,q3,q4,q5⟩,e1,e2,e3⟩:=hr
   have hnn:n'=n:=by
    simp only[Z49]at hrs;repeat' split at hrs
    all_goals first|(injection hrs with hrs;injection hrs with _ hrs;exact hrs.symm)|cases hrs
   subst hnn;obtain⟨news,N⟩:=Xm A hxd hrows q3;obtain⟨olds,N2⟩:=Xm A hsd hrs q2
   obtain⟨base,hsv⟩:∃base,ρ s= .slice base n' n':=by
    simp only[Den]at hsd;rcases hsd with⟨_,h,h0⟩|⟨en,o,_,h,_⟩
    ·subst h0;exact⟨none,h⟩
    ·rw[q0,Option.getD_some,Nat.add_sub_cancel_left]at h;exact⟨_,h⟩
   refine newarr (rs:=ys) (olds:=olds) hsv N (by omega) q4 q5 (fun w' hw'=>?_) N2.den N2.one q2 q3 e1 e2 e3;rw[<-hsv];exact N2.first w' hw'
  ·exact hr.elim
 split at hr
 ·rename_i q hsu;obtain⟨d,hd,hm⟩:=A.T.und u (by rw[hsu];simp);rw[hsu]at hm;simp only[ShM]at hm;subst hm;exact main (.inl ⟨_,hd⟩) hr
 ·rename_i hsu;obtain⟨d,hd,hm⟩:=A.T.und u (by rw[hsu];simp);rw[hsu]at hm;simp only[ShM]at hm;subst hm;exact main (.inr hd) hr
 ·rename_i k hsu;obtain⟨d,hdu,hm⟩:=A.T.und u (by rw[hsu];simp);rw[hsu]at hm;simp only[ShM]at hm;subst hm;split at hr
  case h_2=>exact hr.elim
  have hsv:ρ s= .slice none 0 0:=And.left hsd;unfold ZbN at hr;split at hr
  case h_2=>exact hr.elim
  rename_i e hst;obtain⟨d,hd,hm⟩:=A.T.und t (by rw[hst];simp);rw[hst]at hm;simp only[ShM]at hm;subst hm;split at hr
  ·exact hr.elim
  rename_i c cs hz;have hsh:M.C.T.sh e≠ .other:=A.T.zsh e (by rw[hz];simp);obtain⟨ie,z,h1,h2,h3,h4,h5,_⟩:=A.T.zero e hsh (by rw[hz];simp);rw[hz]at h3 h5;obtain⟨ie',hie,hies,hieb⟩:=A.T.info e hsh;rw[h1]at hie;injection hie with hie;subst hie
  have h3:=DenL.mono (η':=η) List.nil_prefix h3;have hzl:z.cells.size=M.C.T.size e:=by have:=ZP h3;rw[h5]at this;simpa using this
  split at hr
  case h_2=>exact hr.elim
  rename_i kk n;obtain⟨⟨q1,q2,q3⟩,e1,e2,e3⟩:=hr;have hxv:=V0 hxd;subst e1 e2 e3;by_cases hn0:n=0
  ·subst hn0;have hrun:=Z5p (P:=M.P) (ty:=ty) (w:=w) (kk:=kk) hd hdu h1;rw[<-hsv,<-hxv]at hrun;refine⟨_,w,η++ [none],fin hrun,List.prefix_append _ _,?_,?_,fun _ h=>absurd h (by simp)⟩
   ·exact A.H.name none (Or.inl ⟨ZL A.H.len _,rfl⟩) (fun e h=>by cases h) (fun e h=>by cases h)
   ·exact Or.inl ⟨ZL A.H.len _,hsv,rfl⟩
  ·have hpos:0<M.C.T.size e:=by rw[<-h5];simp
   have hrun:=Z6K (P:=M.P) (ty:=ty) (w:=w) (kk:=kk) (n:=n) hd hdu h1 h2 (by rw[hies];exact hpos) (by omega) q2 (by rw[hieb];exact q3);rw[<-hsv,<-hxv]at hrun;have hge:=grownCap_ge w n.toNat 0 e
   have hzc:(Builtin.zeroCells z.cells n.toNat).toList=XT z.cells.toList n.toNat:=by
    unfold Builtin.zeroCells;exact U5 z.cells n.toNat _ rfl
   have hLL:=Z2W h3 (by simpa using hzl) n.toNat;have hone:=Z2R h4 n.toNat;have hra:=Xe hLL hone;have hlen:=V2 hLL;rw[List.length_replicate]at hlen;refine⟨_,_,η++ [some ⟨w.heap.size,0,grownCap w n.toNat 0 e⟩],fin hrun,List.prefix_append _ _,?_,UK A.H.len hge,fun _ h=>absurd h (by simp)⟩;rw[hzc];refine HeapOK.alloc (w':=w.drew.alloc (.cells ⟨XT z.cells.toList n.toNat++(Builtin.zeroCells z.cells (grownCap w n.toNat 0 e-n.toNat)).toList⟩ e)) A.H rfl rfl rfl rfl 0 _ ?_;simp only[HpSat];right
   have hszz:(XT z.cells.toList n.toNat++(Builtin.zeroCells z.cells (grownCap w n.toNat 0 e-n.toNat)).toList).length=grownCap w n.toNat 0 e*M.C.T.size e:=by
    rw[List.length_append,hlen,Array.length_toList,size_zeroCells,hzl,<-Nat.add_mul];congr 1;omega
   refine⟨_,_,e,(0,0),ZL A.H.len _,Yy (w:=w) (w':=w.drew.alloc _) rfl,fun _=>⟨W9 _,hszz,?_,rfl⟩,?_⟩
   ·rw[List.length_replicate];exact hge
   ·intro k row hk;obtain⟨p1,p2⟩:=hra k row hk;refine⟨p1,fun j sv' hj=>?_⟩;obtain⟨y,p3,p4,p5⟩:=p2 j sv' hj;refine⟨y,?_,p4,p5.mono (List.prefix_append _ _)⟩;have hlt:=(Array.getElem?_eq_some_iff.1 p3).1;simp only[List.getElem?_toArray];rw[List.getElem?_append_left (by simpa using hlt)];simpa using p3
 ·exact hr.elim
end
end Go.Sx
