/- Part 10: ReadG, ReadM, GlobB, ReadS. Conditions: as each part says. -/
import Derived.Test.YtlcbipfmodcedaaGreatDoorRows
import Derived.Lib.LaidTab
import Derived.LaidSub
import Derived.Test.YtlcbipfmodcedaaGreatDoorRfn0
import Derived.Test.YtlcbipfmodcedaaGreatDoorRfn9
set_option linter.unusedVariables false
set_option linter.unusedSimpArgs false
namespace Go.Sx
open Go
theorem Does.callsS{P:Program}{T:Tab}{g:FuncId}{args:List SV}{r:SV}{vs:List Value}{w:World}{η0:Env}{S:Hps}{k:Nat}(hk:η0.length=k)(sp:Does P T g k args [] S (ValK k r))(eg:∀args w,(callFunc g args).run P w= .ok (.enter g args) w)(hd:DenL η0 args vs)
 (hs:∀p∈S,HpSat η0 w false (.loc p.1) p.2) (he:∀(i:Nat) (e:Ent),η0[i]?=some (some e)->e.g<w.heap.size)
 (hg:∀g h,lkp g T.globs=some h->HpSat [] w false (.glob g) h/\g<w.heap.size):
 Calls P g ⟨vs⟩ w fun e w'=> ∃v η',e= .returned v/\Den η' r v/\FrW w w' fun _=>False:=by
 have hmem:∀{S:Hps} {i:Nat} {h:Hp},lkpB (.loc i) (shB S)=some h->(i,h)∈S:=by
  intro S
  induction S with
  |nil=>intro i h hh;simp[shB,lkpB]at hh
  |cons p S ih=>
   intro i h hh;obtain⟨j,h'⟩:=p;simp only[shB,List.map_cons,lkpB,WU]at hh;cases hb:Nat.beq i j with
   |true=>
    rw[hb]at hh;have:=Zn hb;subst this;injection hh with hh;subst hh;exact List.mem_cons_self ..
   |false=>
    rw[hb]at hh;exact List.mem_cons_of_mem _ (ih hh)
 have hpl:∀g h,lkp g T.globs=some h->JW h=true:=by
  intro g h hh;have:=UO hh;exact List.all_eq_true.1 T.gplain _ this
 have H:HeapOK ⟨P,⟨T,0,shB S,none⟩,w,fun _=>False,η0,none⟩ η0 w [] k:=⟨List.prefix_rfl,hk,⟨fun i h hi=>by simp[lkp]at hi,fun i j h h' n hi=>by simp[lkp]at hi⟩,FrW.refl _ _,fun b h hb=>by
  cases b with
  |loc i=>
   exact⟨hs _ (hmem hb),fun n f=>⟨(hs _ (hmem hb)).feet_lt f,fun h=>h⟩⟩
  |glob g=>
   obtain⟨h1,h2⟩:=hg g h hb
   exact⟨h1.plain (hpl g h hb),fun n f=>⟨(h1.plain (η':=η0) (hpl g h hb)).feet_lt f,fun h=>h⟩⟩⟩
 have hF:(fun _=>False:Nat->Prop)=Yk η0 w []:=by
  funext n;simp[Yk,lkp]
 rcases sp.out ⟨P,⟨T,0,shB S,none⟩,w,fun _=>False,η0,none⟩ vs rfl rfl hF rfl H hd with⟨g',h1,h2⟩|⟨v,w',h1,_⟩
 ·rw[eg]at h1;injection h1 with h1 _;injection h1 with h1 _;subst h1;refine h2.mono fun e w' hee=>?_;obtain⟨v,rfl,r',O',nx',η',⟨rfl,rfl,rfl⟩,_,h4,h5⟩:=hee;exact⟨v,η',rfl,h5,h4.fr⟩
 ·rw[eg]at h1;cases h1
end Go.Sx
namespace Go.Our
open Go.RowKit Go.ChangeShapes Go.WideShapes Go.ChangeAt Go.Sx
section
variable {H:Type}{enc:TypeId×Value->H}{P:Program}{w:World}
def SliceIn(w:World)(v:Value)(es:Nat)(rs:List (List SV))(en:Option Ent):Prop:=
 (∀x,en=some x->x.g<w.heap.size)/\∀(η:Env) (i:Nat),η[i]?=some en->Den η (.sl (.loc i) 0 es rs.length none) v/\HpSat η w false (.loc i) (.rows es rs)
theorem Z5A{base:Nat}{a:Addr}{n:Nat}{cs:List Value}(h:w.cells? base a n=some cs):cs.length=n/\∀j,j<n->w.cell? (a.add j)=cs[j]?:=⟨(World.cells?_some h).2.1,(World.cells?_some h).2.2⟩
theorem ZaO{α:Type}{G:α->Prop}{t e:TypeId}{es:Nat}{q:Option Addr}{l0 c0 fuel:Nat}{x:DataW H×List MemPlace}(cellsL:α->List Value)(dat:α->DataW H)(row:α->List SV)(hes:0<es)
 (hlen:∀a,(cellsL a).length=es/\(row a).length=es) (hrow:∀(η:Env) (a:α) (j:Nat) (sv:SV),(row a)[j]?=some sv->∃u,(cellsL a)[j]?=some u/\u.oneCell'=true/\Den η sv u)
 (ht:P.underlying t=some (.slice e)) (hc:P.cellsOf e=es) (el:∀fuel cs (x:DataW H×List MemPlace),DataW.trod enc P w 0 (fun _=>true) true fuel e cs=some x->∃a:α,cs=cellsL a/\x.1=dat a/\G a)
 (ho:∀a,q=some a->a.spot=none/\∃arr T fz,w.heap[a.block]?=some (.cells arr T fz)) (hf:DataW.trod enc P w 0 (fun _=>true) true fuel t [.slice q l0 c0]=some x):
 ∃(l:List α) (en:Option Ent),SliceIn w (.slice q l0 c0) es (l.map row) en/\((l=[]/\x.1= .nil)\/∃z:List α,x.1= .slice (l.map dat) (z.map dat))/\l.length=l0/\∀a∈l,G a:=by
 rcases DataW.trod_slice ht hf with⟨hcs,hx⟩|⟨a,len,cap,elems,rest,n,_,hcs,hx,hb,hl,hm,hlen2,hel,hsp,hns⟩
 ·injection hcs with hcs _;injection hcs with h1 h2 h3;subst h1 h2 h3 hx;refine⟨[],none,⟨fun x hx=>(by cases hx),fun η i hi=>?_⟩, .inl ⟨rfl,rfl⟩,rfl,fun a h=>by cases h⟩;refine⟨?_,?_⟩
  ·unfold Den;exact .inl ⟨hi,rfl,rfl⟩
  ·unfold HpSat;exact .inl ⟨hi,rfl⟩
 ·injection hcs with hcs _;injection hcs with h1 h2 h3;subst h1 h2 h3 hx;obtain⟨hspot,arr,T,fz,hheap⟩:=ho _ rfl;obtain⟨ab,ao,asp⟩:=a;simp only at hspot hheap;subst hspot
  have each:∀(i:Nat) y,(elems++rest)[i]?=some y->∃x:α,y.1=dat x/\G x/\∀j,j<es->w.cell? ⟨ab,ao+i*es+j,none⟩=(cellsL x)[j]?:=by
   intro i y hy
   have hb':(w.cells? 0 ((⟨ab,ao,none⟩:Addr).add (i*P.cellsOf e)) (P.cellsOf e)).bind (DataW.trod enc P w 0 (fun _=>true) true n e)=some y:=by
    by_cases hi:i<l0
    ·rw[hel i hi,<-hy,List.getElem?_append_left (by omega)]
    ·obtain⟨hrl,hr⟩:=hsp rfl;have hlt:=(List.getElem?_eq_some_iff.1 hy).1;simp only[List.length_append]at hlt;have:=hr (i-l0) (by omega);rw[show l0+(i-l0)=i by omega]at this;rw[this,<-hy,List.getElem?_append_right (by omega),hlen2]
   obtain⟨cs',hcs',hy'⟩:=Option.bind_eq_some_iff.1 hb';obtain⟨x,rfl,hx1,hx2⟩:=el _ _ _ hy';refine⟨x,hx1,hx2,fun j hj=>?_⟩;rw[hc]at hcs';rw[<-(Z5A hcs').2 j hj];congr 1;unfold Addr.add;split<;>split<;>simp_all<;>omega
  have list:∀(ys:List (DataW H×List MemPlace)) (k:Nat),(∀i y,ys[i]?=some y->(elems++rest)[k+i]?=some y)->∃xs:List α,ys.map (·.1)=xs.map dat/\xs.length=ys.length/\(∀a∈xs,G a)/\∀(i:Nat) x,xs[i]?=some x->∀j,j<es->w.cell? ⟨ab,ao+(k+i)*es+j,none⟩=(cellsL x)[j]?:=by
   intro ys
   induction ys with
   |nil=>intro k _;exact⟨[],rfl,rfl,(fun a h=>by cases h),fun i x hx=>by simp at hx⟩
   |cons y ys ih=>
    intro k hk;obtain⟨x,hx1,hg,hx2⟩:=each (k+0) y (hk 0 y rfl);obtain⟨xs,h1,h2,hgs,h3⟩:=ih (k+1) fun i y' hy'=>by rw[show k+1+i=k+(i+1)by omega];exact hk (i+1) y' (by simpa using hy')
    refine⟨x::xs,by simp[h1,hx1],by simp[h2],(fun a ha=>(List.mem_cons.1 ha).elim (fun e=>e▸hg) (hgs a)),fun i z hz j hj=>?_⟩;cases i with
    |zero=>simp at hz;subst hz;exact hx2 j hj
    |succ i=>simp at hz;rw[show k+(i+1)=k+1+i by omega];exact h3 i z hz j hj
  obtain⟨xs,h1,h2,hgs,h3⟩:=list elems 0 fun i y hy=>by rw[Nat.zero_add,List.getElem?_append_left (List.getElem?_eq_some_iff.1 hy).1];exact hy
  obtain⟨zs,h4,_,_,_⟩:=list rest elems.length fun i y hy=>by rw[List.getElem?_append_right (by omega)];simpa using hy
  refine⟨xs,some ⟨ab,ao,c0⟩,⟨fun x hx=>?_,fun η i hi=>⟨?_,?_⟩⟩, .inr ⟨zs,by rw[h1,h4]⟩,by rw[h2,hlen2],hgs⟩
  ·injection hx with hx;subst hx;exact(Array.getElem?_eq_some_iff.1 hheap).1
  ·simp only[Den,Env.get];refine .inr ⟨⟨ab,ao,c0⟩,ao,hi,?_,?_,Nat.le_refl _,fun _=>by simp⟩
   ·simp only[Option.getD_none,Nat.sub_zero,List.length_map,h2,hlen2]
   ·simp only[Option.getD_none,List.length_map,h2,hlen2];omega
  ·simp only[HpSat,Env.get];refine .inr ⟨⟨ab,ao,c0⟩,arr,T,fz,hi,hheap,fun h=>(by cases h),fun k rw1 hk=>?_⟩;rw[List.getElem?_map]at hk;obtain⟨x,hx,rfl⟩:=Option.map_eq_some_iff.1 hk;refine⟨(hlen x).2,fun j sv hj=>?_⟩;obtain⟨u,hu1,hu2,hu3⟩:=hrow η x j sv hj;have hj2:j<es:=by rw[<-(hlen x).2];exact(List.getElem?_eq_some_iff.1 hj).1
   have:=h3 k x hx j hj2;rw[Nat.zero_add,hu1]at this;unfold World.cell? at this;simp only[hheap]at this;exact⟨u,by simpa using this,hu2,hu3⟩
theorem Zet{α:Type}{t e:TypeId}{es:Nat}{v:Value}{d:DataW H}{p:List MemPlace}{r:Reach}{b0:Nat}(cellsL:α->List Value)(dat:α->DataW H)(row:α->List SV)(hes:0<es)
 (hlen:∀a,(cellsL a).length=es/\(row a).length=es) (hrow:∀(η:Env) (a:α) (j:Nat) (sv:SV),(row a)[j]?=some sv->∃u,(cellsL a)[j]?=some u/\u.oneCell'=true/\Den η sv u)
 (ht:P.underlying t=some (.slice e)) (hc:P.cellsOf e=es) (el:∀fuel cs (x:DataW H×List MemPlace),DataW.trod enc P w 0 (fun _=>true) true fuel e cs=some x->∃a:α,cs=cellsL a/\x=(dat a,[]))
 (ho:Value.okWide P w r b0 t v) (h:DataW.Trod enc P w 0 (fun _=>true) true t v d p):
 ∃(l:List α) (en:Option Ent),SliceIn w v es (l.map row) en/\((l=[]/\d= .nil)\/∃z:List α,d= .slice (l.map dat) (z.map dat)):=by
 obtain⟨fuel,hf⟩:=h;obtain⟨a0,l0,c0,rfl⟩:=okWide_slice ht ho
 obtain⟨l,en,h1,h2,_,_⟩:=ZaO (G:=fun _=>True) cellsL dat row hes hlen hrow ht hc (fun fuel cs x hx=>let⟨a,h1,h2⟩:=el fuel cs x hx;⟨a,h1,by rw[h2],trivial⟩) (fun a ha=>by
  subst ha;simp only[Value.okWide,ht,Cell.okWide,Cell.ok]at ho;obtain⟨_,_,_,hspot,rw',cl,hsh,_⟩:=ho;refine⟨hspot,?_⟩;unfold World.shape? at hsh;split at hsh
  ·rename_i c e' f' hh;exact⟨_,_,_,hh⟩
  ·cases hsh) hf
 exact⟨l,en,h1,h2⟩
end
theorem SliceIn.den{α:Type}{W:World}{v:Value}{es:Nat}{l:List α}{row:α->List SV}{en:Option Ent}(h:SliceIn W v es (l.map row) en){η:Env}{i:Nat}(hi:η[i]?=some en):Den η (.sl (.loc i) 0 es l.length none) v:=by
 have:=(h.2 η i hi).1;rwa [List.length_map]at this
theorem SliceIn.sat{W:World}{v:Value}{es:Nat}{rs:List (List SV)}{en:Option Ent}(h:SliceIn W v es rs en){η:Env}{i:Nat}(hi:η[i]?=some en):HpSat η W false (.loc i) (.rows es rs):=(h.2 η i hi).2
end Go.Our
namespace Go.Proofs.YtlcbipfmodcedaaGreatDoor
open Go.RowKit Go.Our Go.ChangeShapes Go.WideShapes Go.ChangeAt Go.Sx
open _root_.Go.Proofs.Tryz
abbrev Zct(W:World):Prop:=∀g h,lkp g tab.globs=some h->HpSat [] W false (.glob g) h/\g<W.heap.size
theorem ZaP{g:FuncId}{args:List SV}{vs:List Value}{W:World}{η0:Env}{S:Hps}{k:Nat}(hk:η0.length=k)(sp:Does prog tab g k args [] S (ValK k (.bool true)))(eg:∀args w,(callFunc g args).run prog w= .ok (.enter g args) w)(hd:DenL η0 args vs)
 (hs:∀p∈S,HpSat η0 W false (.loc p.1) p.2) (he:∀(i:Nat) (e:Ent),η0[i]?=some (some e)->e.g<W.heap.size) (hg:Zct W):
 Calls prog g ⟨vs⟩ W fun e W'=>e= .returned (.bool true)/\Below W.heap.size W W':=by
 refine(sp.callsS hk eg hd hs he hg).mono fun e W' ⟨v,η',he,hv,hf⟩=>?_;simp only[Den]at hv;subst hv;exact⟨he,hf.os,hf.tape,hf.output,hf.size,fun k hk=>hf.block k hk fun h=>h⟩
theorem ZaQ{g:FuncId}{args:List SV}{vs:List Value}{W:World}{v:Value}{es:Nat}{rs:List (List SV)}{en:Option Ent}(h:SliceIn W v es rs en)(sp:Does prog tab g 1 args [] [(0, .rows es rs)] (ValK 1 (.bool true)))(eg:∀args w,(callFunc g args).run prog w= .ok (.enter g args) w)(hd:DenL [en] args vs)(hg:Zct W):
 Calls prog g ⟨vs⟩ W fun e W'=>e= .returned (.bool true)/\Below W.heap.size W W':=by
 refine ZaP (η0:=[en]) rfl sp eg hd (fun p hp=>?_) (fun i e hi=>?_) hg
 ·have hp:=List.mem_singleton.1 hp;subst hp;exact h.sat rfl
 ·match i,hi with
  |0,hi=>injection hi with hi;exact h.1 e hi
end Go.Proofs.YtlcbipfmodcedaaGreatDoor
namespace Go.Proofs.YtlcbipfmodcedaaGreatDoor
open Go.RowKit Go.Our Go.ChangeShapes Go.WideShapes Go.ChangeAt Go.Sx
open _root_.Go.Proofs.Tryz
section
variable {H:Type}{enc:TypeId×Value->H}{w:World}{base:Nat}{sp:Nat->Bool}{held:Bool}
abbrev strV(s:List UInt8):Value:= .string ⟨s.toArray⟩
abbrev tmL(x:Tm):List Value:=[.int .i64 x.k,strV x.t,strV x.y,strV x.l]
abbrev tmV(x:Tm):Value:= .agg ⟨tmL x⟩
abbrev qdL(q:Qd):List Value:=[.int .i64 q.s.k,strV q.s.t,strV q.s.y,strV q.s.l, .int .i64 q.p.k,strV q.p.t,strV q.p.y,strV q.p.l, .int .i64 q.o.k,strV q.o.t,strV q.o.y,strV q.o.l, .int .i64 q.g.k,strV q.g.t,strV q.g.y,strV q.g.l]
abbrev qdV(q:Qd):Value:= .agg ⟨qdL q⟩
def tmD(x:Tm):DataW H:= .agg [.lit (.int .i64 x.k), .lit (.string x.t), .lit (.string x.y), .lit (.string x.l)]
def qdD(q:Qd):DataW H:= .agg [tmD q.s,tmD q.p,tmD q.o,tmD q.g]
abbrev TmWf(x:Tm):Prop:=(Lit.int .i64 x.k).wf=true
abbrev QdWf(q:Qd):Prop:=TmWf q.s/\TmWf q.p/\TmWf q.o/\TmWf q.g
theorem Zeu:prog.cellsOf 3=1:=by kernel_rfl
theorem Zev:prog.cellsOf 9=1:=by kernel_rfl
theorem Z9L:prog.cellsOf 65=4:=by kernel_rfl
theorem Z9M:prog.cellsOf 67=16:=by kernel_rfl
theorem Z8y(s:ByteArray):Value.string s=strV s.data.toList:=by cases s;rfl
set_option maxRecDepth 100000 in
theorem Z5F{fuel:Nat}{cs:List Value}{x:DataW H×List MemPlace}(h:DataW.trod enc prog w base sp held fuel 65 cs=some x):
 ∃t:Tm,cs=tmL t/\x=(tmD t,[])/\TmWf t:=by
 cases fuel with
 |zero=>simp[DataW.trod]at h
 |succ fuel=>
  simp only[DataW.trod,underlying65,Z9L]at h;split at h
  ·rename_i hl
   match cs,hl with
   | [c0,c1,c2,c3],_=>
     simp only[List.mapM_cons,List.mapM_nil,Zeu,Zev,List.drop_zero,List.drop_succ_cons,List.take_succ_cons,List.take_zero]at h;simp only[Option.map_eq_some_iff,Option.bind_eq_bind,Option.bind_eq_some_iff,Option.pure_def,Option.some.injEq]at h;obtain⟨xs,⟨y0,h0,r1,⟨y1,h1,r2,⟨y2,h2,r3,⟨y3,h3,r4,rfl,rfl⟩,rfl⟩,rfl⟩,rfl⟩,hx⟩:=h;obtain⟨k,hk,rfl,wk⟩:=DataW.trod_int underlying3 h0;obtain⟨s1,hs1,rfl,w1⟩:=DataW.trod_string underlying9 h1;obtain⟨s2,hs2,rfl,w2⟩:=DataW.trod_string underlying9 h2;obtain⟨s3,hs3,rfl,w3⟩:=DataW.trod_string underlying9 h3;injection hk with hk _;injection hs1 with hs1 _;injection hs2 with hs2 _;injection hs3 with hs3 _;subst hk hs1 hs2 hs3;exact⟨⟨k,s1.data.toList,s2.data.toList,s3.data.toList⟩,by rw[Z8y,Z8y,Z8y],by rw[<-hx];rfl,wk⟩
  ·cases h
set_option maxRecDepth 100000 in
theorem Zgm{fuel:Nat}{cs:List Value}{x:DataW H×List MemPlace}(h:DataW.trod enc prog w base sp held fuel 67 cs=some x):
 ∃q:Qd,cs=qdL q/\x=(qdD q,[])/\QdWf q:=by
 cases fuel with
 |zero=>simp[DataW.trod]at h
 |succ fuel=>
  simp only[DataW.trod,underlying67,Z9M]at h;split at h
  ·rename_i hl;simp only[List.mapM_cons,List.mapM_nil,Z9L]at h;simp only[Option.map_eq_some_iff,Option.bind_eq_bind,Option.bind_eq_some_iff,Option.pure_def,Option.some.injEq]at h;obtain⟨xs,⟨y0,h0,r1,⟨y1,h1,r2,⟨y2,h2,r3,⟨y3,h3,r4,rfl,rfl⟩,rfl⟩,rfl⟩,rfl⟩,hx⟩:=h;obtain⟨s,hs,rfl,ws⟩:=Z5F h0;obtain⟨p,hp,rfl,wp⟩:=Z5F h1;obtain⟨o,ho,rfl,wo⟩:=Z5F h2;obtain⟨g,hg,rfl,wg⟩:=Z5F h3;refine⟨⟨s,p,o,g⟩,?_,by rw[<-hx];rfl,ws,wp,wo,wg⟩
   match cs,hl with
   | [c0,c1,c2,c3,c4,c5,c6,c7,c8,c9,c10,c11,c12,c13,c14,c15],_=>
     simp only[List.drop_zero,List.drop_succ_cons,List.take_succ_cons,List.take_zero,tmL,List.cons.injEq,and_true]at hs hp ho hg;obtain⟨rfl,rfl,rfl,rfl⟩:=hs;obtain⟨rfl,rfl,rfl,rfl⟩:=hp;obtain⟨rfl,rfl,rfl,rfl⟩:=ho;obtain⟨rfl,rfl,rfl,rfl⟩:=hg
     rfl
  ·cases h
theorem Z2i{x:Tm}(h:((tmD x:DataW H).weights prog 65).all (fun n=>decide (n<=reachBytes))=true):x.t.length<=reachBytes/\x.y.length<=reachBytes/\x.l.length<=reachBytes:=by
 simp only[tmD,DataW.weights,underlying65,List.map_cons,List.map_nil,DataW.weightsEach,List.nil_append,List.append_nil,List.cons_append,List.all_cons,List.all_nil,Bool.and_true,Bool.and_eq_true,decide_eq_true_eq]at h;exact h
theorem Zew{q:Qd}(h:((qdD q:DataW H).weights prog 67).all (fun n=>decide (n<=reachBytes))=true):(q.s.t.length<=reachBytes/\q.s.y.length<=reachBytes/\q.s.l.length<=reachBytes)/\(q.p.t.length<=reachBytes/\q.p.y.length<=reachBytes/\q.p.l.length<=reachBytes)/\
 (q.o.t.length<=reachBytes/\q.o.y.length<=reachBytes/\q.o.l.length<=reachBytes)/\(q.g.t.length<=reachBytes/\q.g.y.length<=reachBytes/\q.g.l.length<=reachBytes):=by
 have e:(qdD q:DataW H).weights prog 67=(tmD q.s:DataW H).weights prog 65++((tmD q.p:DataW H).weights prog 65++((tmD q.o:DataW H).weights prog 65++((tmD q.g:DataW H).weights prog 65++ []))):=by
  simp only[qdD,DataW.weights,underlying67,List.map_cons,List.map_nil,DataW.weightsEach]
 rw[e]at h;simp only[List.all_append,Bool.and_eq_true]at h;exact⟨Z2i h.1,Z2i h.2.1,Z2i h.2.2.1,Z2i h.2.2.2.1⟩
theorem TmSm.of{x:Tm}(h:x.t.length<=reachBytes/\x.y.length<=reachBytes/\x.l.length<=reachBytes):TmSm x:=by
 unfold reachBytes at h;exact⟨by omega,by omega,by omega⟩
theorem Ziu{q:Qd}(h:((qdD q:DataW H).weights prog 67).all (fun n=>decide (n<=reachBytes))=true):QdSm q:=
 have h:=Zew h
 ⟨TmSm.of h.1,TmSm.of h.2.1,TmSm.of h.2.2.1,TmSm.of h.2.2.2⟩
end
open _root_.Go.Proofs.Tryz
theorem ZhH{W:World}{l:List (String×DataW Unit)}(hl:(l.filter fun x=>x.2.handleName?.isNone).filter (fun x=>x.1== "tessera/names.basesTable")=[("tessera/names.basesTable",Lib.tabData .i32 basesTableInts)])(hl1:(l.filter fun x=>x.2.handleName?.isNone).filter (fun x=>x.1== "internal/strconv.uint64pow10")=[("internal/strconv.uint64pow10",Lib.tabData .u64 uint64pow10Ints)])(h:laidMetH prog l W):Zct W:=by
 intro g h' hg;simp only[tab]at hg;rw[Z6]at hg;split at hg
 ·rename_i eg;subst eg;injection hg with hg;subst hg;have h1:=laidMet.filter (fun x=>x.1== "tessera/names.basesTable") (laidMetH_iff.1 h).1
  rw[hl]at h1
  have hT:Lib.TabIs prog W "tessera/names.basesTable" .i32 basesTableInts:=
   Lib.tabIs_of_head (rest:=[]) (g:=6) (by kernel_rfl) (by kernel_rfl) underlying333 underlying21 (by kernel_rfl) (by kernel_rfl) h1
  have hc:∀i,i<24->W.cell? ⟨6,i,none⟩=some (.int .i32 (basesTableInts.getD i 0)):=fun i hi=>hT.cell (by kernel_rfl) i hi;have h0:=hc 0 (by omega);unfold World.cell? at h0;split at h0
  case h_2=>cases h0
  rename_i c T fz hh
  have hall:∀i,i<24->c[i]?=some (.int .i32 (basesTableInts.getD i 0)):=by
   intro i hi;have:=hc i hi;unfold World.cell? at this;simp only at this hh;rw[hh]at this;simpa using this
  simp only at hh;refine⟨?_,(Array.getElem?_eq_some_iff.1 hh).1⟩;simp only[HpSat];refine .inr ⟨⟨6,0,0⟩,c,T,fz,rfl,hh,fun h=>(by cases h),fun i row hr=>?_⟩;unfold WF at hr;rw[List.getElem?_map]at hr;obtain⟨x,hx,rfl⟩:=Option.map_eq_some_iff.1 hr;have hi:i<24:=(List.getElem?_eq_some_iff.1 hx).1;refine⟨rfl,fun j sv hj=>?_⟩;cases j with
  |succ j=>simp at hj
  |zero=>
   simp only[List.getElem?_cons_zero,Option.some.injEq]at hj;subst hj;refine⟨_,by simp only[Nat.zero_add,Nat.mul_one,Nat.add_zero];exact hall i hi,rfl,?_⟩;simp only[Den,List.getD,hx,Option.getD_some]
 ·rw[Z6]at hg;split at hg
  case isFalse=>simp[lkp]at hg
  rename_i eg;subst eg;injection hg with hg;subst hg;have h1:=laidMet.filter (fun x=>x.1== "internal/strconv.uint64pow10") (laidMetH_iff.1 h).1
  rw[hl1]at h1
  have hT1:Lib.TabIs prog W "internal/strconv.uint64pow10" .u64 uint64pow10Ints:=
   Lib.tabIs_of_head (rest:=[]) (g:=2) (by kernel_rfl) (by kernel_rfl) underlying257 underlying162 (by kernel_rfl) (by kernel_rfl) h1
  have hgn:prog.globalNamed "internal/strconv.uint64pow10" =some 2:=by kernel_rfl
  unfold Lib.TabIs World.var? at hT1;rw[hgn]at hT1;simp only[Option.bind_some]at hT1;split at hT1
  case h_2=>cases hT1
  rename_i cs T fz hh;injection hT1 with hT1;refine⟨?_,(Array.getElem?_eq_some_iff.1 hh).1⟩;simp only[HpSat];exact⟨⟨2,0,0⟩,rfl,rfl,T,fz,by rw[hh,hT1];rfl⟩
open _root_.Go.Proofs.Tryz
section
variable {H:Type}{enc:TypeId×Value->H}{w:World}
theorem ZdX(η:Env)(q:Qd)(j:Nat)(sv:SV)(h:(Zd q)[j]?=some sv):∃u,(qdL q)[j]?=some u/\u.oneCell'=true/\Den η sv u:=by
 have hlt:=(List.getElem?_eq_some_iff.1 h).1;have hl:(Zd q).length=16:=rfl;rw[hl]at hlt
 match j,hlt with
 |0,_|1,_|2,_|3,_|4,_|5,_|6,_|7,_|8,_|9,_|10,_|11,_|12,_|13,_|14,_|15,_=>injection h with h;subst h;exact⟨_,rfl,rfl,by simp only[Den]⟩
set_option maxRecDepth 100000 in
theorem Zfb{v:Value}{d:DataW H}{p:List MemPlace}{r:Reach}{b0:Nat}(ho:Value.okWide prog w r b0 22 v)(h:DataW.Trod enc prog w 0 (fun _=>true) true 22 v d p):
 ∃(l:List Qd) (en:Option Ent),SliceIn w v 16 (l.map Zd) en/\((l=[]/\d= .nil)\/∃z:List Qd,d= .slice (l.map qdD) (z.map qdD)):=
 Zet qdL qdD Zd (by omega) (fun a=>⟨rfl,rfl⟩) ZdX underlying22 Z9M (fun fuel cs x hx=>let⟨q,h1,h2,_⟩:=Zgm hx;⟨q,h1,h2⟩) ho h
theorem Zfc:prog.bytesOf 67=224:=by kernel_rfl
theorem ZdY{l:List Qd}{d:DataW H}(hd:(l=[]/\d= .nil)\/∃z:List Qd,d= .slice (l.map qdD) (z.map qdD))(h:(d.weights prog 22).all (fun n=>decide (n<=reachBytes))=true):l.length*224<=140737488351232/\∀q∈l,QdSm q:=by
 rcases hd with⟨rfl,rfl⟩|⟨z,rfl⟩
 ·simp
 ·simp only[DataW.weights,underlying22,Zfc,List.length_map,List.all_cons,List.all_append,Bool.and_eq_true,decide_eq_true_eq]at h;obtain⟨h1,h2,_⟩:=h;refine⟨by unfold reachBytes at h1;rw[Nat.add_mul]at h1;omega,?_⟩
  have hall:∀(l:List Qd),(DataW.weightsAll prog 67 (l.map (qdD (H:=H)))).all (fun n=>decide (n<=reachBytes))=true->∀q∈l,QdSm q:=by
   intro l
   induction l with
   |nil=>intro _ q hq;cases hq
   |cons a l ih=>
    intro h q hq;simp only[List.map_cons,DataW.weightsAll,List.all_append,Bool.and_eq_true]at h;rcases List.mem_cons.1 hq with rfl|hq
    ·exact Ziu (H:=H) h.1
    ·exact ih h.2 q hq
  exact hall l h2
end
end Go.Proofs.YtlcbipfmodcedaaGreatDoor
