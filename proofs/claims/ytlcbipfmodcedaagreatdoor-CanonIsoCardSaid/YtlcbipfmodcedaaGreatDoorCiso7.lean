/- Part 7: SxDrawn, SxDrawnS, SxDrawnT, SxAuto3, CmpM, SetM, SetN, ListM, MapG, ApartM, IsoM, Sort, SxRange, SortS, SetO, SxKeep, SplitM, TagM, TermM, ValidM, ValidN, InferM, WorldM, CloseM, DrawsM, ClosR, LeastM, SxKids, Prs, MapM, FreshM, BijM, SightM, Itoa, IsoFindM. Conditions: as each part says. -/
import Derived.Lib.Bytealg
import Derived.Lib.Strings
import Derived.Shelf.SlSortCmp.NoneTotal
import Derived.RangeFuncNested
import Derived.Shelf.Sort.Plain
import Derived.Shelf.Slices.In.SortNone
import Derived.Lib.ItoaNum
import Derived.Shelf.Strconv.Itoa3
import Derived.Test.YtlcbipfmodcedaaGreatDoorCiso3
import Derived.Test.YtlcbipfmodcedaaGreatDoorCiso6
set_option linter.unusedVariables false
set_option linter.unusedSimpArgs false
namespace Go.Sx
open Go
def b9(v:SV):Prop:=∀Y u u',Den Y v u->Den Y v u'->u=u'
def bf(vs:List SV):Prop:=∀Y us us',vX Y vs us->vX Y vs us'->us=us'
mutual
def gy:SV->Bool
 | .bool _| .int _ _| .str _| .ptr _ _ _ _| .val _| .mp _| .yf _=>true
 | .jQ _=>false
 | .sl _ r _ _ _=>Nat.beq r 0
 | .agg cs=>mw cs
 | .uI vs=>mw vs
 | .gR _ v=>gy v
 | .fn _ a b=>mw a&&mw b
 | .arr _ _=>false
 | .any=>false
 | .nb _=>false
def mw:List SV->Bool
 | []=>true
 |c::cs=>gy c&&mw cs
end
mutual
theorem b9.of:∀{v:SV},gy v=true->b9 v
 | .bool _,_=>fun Y u u' h h'=>by simp only[Den]at h h';rw[h,h']
 | .int _ _,_=>fun Y u u' h h'=>by simp only[Den]at h h';rw[h,h']
 | .str _,_=>fun Y u u' h h'=>by simp only[Den]at h h';rw[h,h']
 | .val _,_=>fun Y u u' h h'=>by simp only[Den]at h h';rw[h.1,h'.1]
 | .mp b,_=>fun Y u u' h h'=>by
   simp only[Den]at h h';obtain⟨e,h1,rfl⟩:=h;obtain⟨e',h2,rfl⟩:=h';rw[h1]at h2;injection h2 with h2;injection h2 with h2;rw[h2]
 | .ptr b r es c,_=>fun Y u u' h h'=>by
   simp only[Den]at h h';obtain⟨e,h1,rfl⟩:=h;obtain⟨e',h2,rfl⟩:=h';rw[h1]at h2;injection h2 with h2;injection h2 with h2;rw[h2]
 | .sl b r es len lim,hd=>fun Y u u' h h'=>by
   simp only[gy]at hd;have hd:=Zq hd;simp only[Den]at h h';rcases h with⟨h1,rfl,_⟩|⟨e,o,h1,rfl,_,_,h2⟩
   .rcases h' with⟨jo,rfl,_⟩|⟨e',o',jo,rfl,_,_,Q5⟩
    rfl
    rw[h1]at jo;cases jo
   .rcases h' with⟨jo,rfl,_⟩|⟨e',o',jo,rfl,_,_,Q5⟩
    rw[h1]at jo;cases jo
    .rw[h1]at jo;injection jo with jo;injection jo with jo;subst jo
     rw[h2 (.inr hd),Q5 (.inr hd)]
 | .agg cs,hd=>fun Y u u' h h'=>by
   simp only[gy]at hd;simp only[Den]at h h';obtain⟨us,rfl,h1,_⟩:=h;obtain⟨us',rfl,h2,_⟩:=h';rw[bf.of hd Y us us' h1 h2]
 | .uI cs,hd=>fun Y u u' h h'=>by
   simp only[gy]at hd;simp only[Den]at h h';obtain⟨us,rfl,h1⟩:=h;obtain⟨us',rfl,h2⟩:=h';rw[bf.of hd Y us us' h1 h2]
 | .gR t v,hd=>fun Y u u' h h'=>by
   simp only[gy]at hd;simp only[Den]at h h';obtain⟨us,rfl,h1⟩:=h;obtain⟨us',rfl,h2⟩:=h';rw[b9.of hd Y us us' h1 h2]
 | .fn f a b,hd=>fun Y u u' h h'=>by
   simp only[gy,zk]at hd;simp only[Den]at h h';obtain⟨us,vs,rfl,h1,h3⟩:=h;obtain⟨us',vs',rfl,h2,h4⟩:=h';rw[bf.of hd.1 Y us us' h1 h2,bf.of hd.2 Y vs vs' h3 h4]
 | .arr _ _,hd=>by simp[gy]at hd
 | .any,hd=>by simp[gy]at hd
 | .nb _,hd=>by simp[gy]at hd
 | .jQ _,hd=>by simp[gy]at hd
 | .yf b,_=>fun Y u u' h h'=>by
   simp only[Den]at h h';obtain⟨e,h1,rfl⟩:=h;obtain⟨e',h2,rfl⟩:=h';rw[h1]at h2;injection h2 with h2;injection h2 with h2;rw[h2]
theorem bf.of:∀{vs:List SV},mw vs=true->bf vs
 | [],_=>fun Y us us' h h'=>by simp only[vX]at h h';rw[h,h']
 |c::cs,hd=>fun Y us us' h h'=>by
  simp only[mw,zk]at hd;simp only[vX]at h h';obtain⟨u,r,rfl,h1,h2⟩:=h;obtain⟨u',r',rfl,jo,Q5⟩:=h';rw[b9.of hd.1 Y u u' h1 jo,bf.of hd.2 Y r r' h2 Q5]
end
def UM:u0->List (wG×Hp)
 | []=>[]
 |(i,h)::r=>(.loc i,h)::UM r
def Q7(C:Cx)(O:u0):Cx:=⟨C.T,C.N,UM O++C.S,C.ro⟩
def Kw(C:Cx):Cx:=⟨{C.T with qS:=[],dK:=rfl},C.N,[],C.ro⟩
def bg(M:Mx)(O:u0)(Y:Env)(w:World):Mx:=⟨M.P,Q7 M.C O,w,fun _=>False,Y,none⟩
def Kx(M:Mx)(Y:Env)(w:World):Mx:=⟨M.P,Kw M.C,w,fun _=>False,Y,none⟩
def FT:SV->Prop->Prop
 | .bool _,K| .int _ _,K| .str _,K| .ptr _ _ _ _,K| .val _,K=>K
 | .agg cs,K=>match mw cs with|true=>K|false=>ud (b9 (.agg cs)) K
 | .uI cs,K=>match mw cs with|true=>K|false=>ud (b9 (.uI cs)) K
 |v,K=>ud (b9 v) K
def Q8(N:Nat)(C:Cx)(o:Oper)(fr:Fr)(nx:Nat)(K:SV->Prop):Prop:=
 match Jj N o.dst with
 |false=>uE "slot"
 |true=>match o.op with
  | .move x=>match Jx fr x with|some v=>K v|none=>uE "operand"
  | .assign x=>match Jx fr x with|some v=>K v|none=>uE "operand"
  |op=>match P3 op with
   |true=>uE "writes"
   |false=>(wj C (Jx fr) [] nx op).gv fun v=>FT v (K v)
structure qW(M:Mx)(o:Oper)(fr:Fr)(O:u0)(nx:Nat)(K:SV->u0->Nat->Prop):Prop where
 mkH::
 hout:∀Y w,vU M Y w O nx->oW (bg M O Y w) o (Jx fr) [] nx fun v O2 nx=>K v (O2++O) nx
theorem qW.mk{M:Mx}{o:Oper}{fr:Fr}{O:u0}{nx:Nat}{K:SV->u0->Nat->Prop}(h:∀Y w,oW (bg M O Y w) o (Jx fr) [] nx fun v O2 nx=>K v (O2++O) nx):qW M o fr O nx K:=⟨fun Y w _=>h Y w⟩
def Ky(M:Mx)(m:Nat)(o:Oper)(fr:Fr)(O:u0)(nx:Nat)(K:SV->u0->Nat->Prop):Prop:=
 match m with
 |0=>oW M o (Jx fr) O nx K
 |1=>Q8 M.C.N (Kw M.C) o fr nx fun v=>K v O nx
 |2=>Q8 M.C.N (Q7 M.C O) o fr nx fun v=>K v O nx
 |_=>qW M o fr O nx K
inductive uJ where
 |nil
 |take (i m:Nat) (t:uJ)
 |fork (i mi j mj:Nat) (a b:uJ)
 |aQ (i mi j mj k mk:Nat) (a b c:uJ)
 |join (t:uJ)
def ZI:List (Nat×Nat)->uJ
 | []=> .nil
 |(i,m)::r=> .take i m (ZI r)
def uJ.depth:uJ->Nat
 | .nil=>0
 | .take _ _ t=>t.depth+1
 | .fork _ _ _ _ a _=>a.depth+1
 | .aQ _ _ _ _ _ _ a _ _=>a.depth+1
 | .join t=>t.depth
structure w6(A B:Prop):Prop where
 a:A
 b:B
structure eU(A:Fr->Prop)(fr:Fr):Prop where
 out:∃fr',(∀t,u6 t fr'=u6 t fr)/\A fr'
theorem eU.go{A:Fr->Prop}{fr:Fr}(h:A fr):eU A fr:=⟨fr,fun _=>rfl,h⟩
theorem eU.ij{A:Fr->Prop}{fr:Fr}{a b c s:Nat}{x y z g:SV}(h:A ((b,y)::(c,z)::(a,x)::(s,g)::fr))(hd:(a≠s/\b≠s/\c≠s)/\a≠b/\a≠c/\b≠c):eU A ((b,y)::(s,g)::(c,z)::(s,g)::(a,x)::(s,g)::fr):=by
 refine⟨_,fun t=>?_,h⟩;obtain⟨⟨h1,h2,h3⟩,h4,h5,h6⟩:=hd;simp only[Z6];repeat' split
 all_goals first|rfl|(exfalso;omega)
theorem eU.ji{A:Fr->Prop}{fr:Fr}{a b c s:Nat}{x y z g:SV}(h:A ((b,y)::(c,z)::(a,x)::(s,g)::fr))(hd:(a≠s/\b≠s/\c≠s)/\a≠b/\a≠c/\b≠c):eU A ((c,z)::(s,g)::(a,x)::(s,g)::(b,y)::(s,g)::fr):=by
 refine⟨_,fun t=>?_,h⟩;obtain⟨⟨h1,h2,h3⟩,h4,h5,h6⟩:=hd;simp only[Z6];repeat' split
 all_goals first|rfl|(exfalso;omega)
def wK(M:Mx)(ops:List Oper)(i m:Nat)(fr:Fr)(O:u0)(nx:Nat)(K:Fr->u0->Nat->Prop):Prop:=
 match nth ops i with
 |none=>uE "order"
 |some o=>match o.guard with
  |none=>Ky M m o fr O nx fun v O nx=>wJ o.dst v fr fun fr=>K fr O nx
  |some (j,want)=>
   match Ue ops j with
   |none=>uE "guard"
   |some s=>match u6 s fr with
    |some (.bool b)=>IF b
     (fun J=>match want with
      |true=>Ky M m o ((s, .bool true)::fr) O nx fun v O nx=>wJ o.dst v ((s, .bool true)::fr) fun fr=>J fr O nx
      |false=>match Jj M.C.N o.dst with|true=>wJ o.dst YF ((s, .bool true)::fr) fun fr=>J fr O nx|false=>uE "slot")
     (fun J=>match want with
      |false=>Ky M m o ((s, .bool false)::fr) O nx fun v O nx=>wJ o.dst v ((s, .bool false)::fr) fun fr=>J fr O nx
      |true=>match Jj M.C.N o.dst with|true=>wJ o.dst YF ((s, .bool false)::fr) fun fr=>J fr O nx|false=>uE "slot")
     K
    |some (.uI [])=>match Jj M.C.N o.dst with|true=>wJ o.dst YF fr fun fr=>K fr O nx|false=>uE "slot"
    |_=>uE "guard"
def ZkW(M:Mx)(ops:List Oper)(i m:Nat)(_:uJ)(rest:RunT):RunT:=fun fr O nx K=>wK M ops i m fr O nx fun fr O nx=>rest fr O nx K
def ZkX(M:Mx)(ops:List Oper)(i mi j mj:Nat)(_ _:uJ)(a b:RunT):RunT:=fun fr O nx K=>w6 (wK M ops i mi fr O nx fun fr O nx=>a fr O nx K) (wK M ops j mj fr O nx fun fr O nx=>b fr O nx K)
def ZjM(M:Mx)(ops:List Oper)(i mi j mj k mk:Nat)(_ _ _:uJ)(a b c:RunT):RunT:=fun fr O nx K=>w6 (wK M ops i mi fr O nx fun fr O nx=>a fr O nx K) (w6 (wK M ops j mj fr O nx fun fr O nx=>b fr O nx K) (wK M ops k mk fr O nx fun fr O nx=>c fr O nx K))
def ZkY(_:uJ)(t:RunT):RunT:=fun fr O nx K=>eU (fun fr=>t fr O nx K) fr
noncomputable def wO (M:Mx)(ops:List Oper)(p:uJ):RunT:=uJ.rec (motive:=fun _=>RunT) OQ (ZkW M ops) (ZkX M ops) (ZjM M ops) ZkY p
theorem w6.skip{M:Mx}{ops:List Oper}{i mi j mj k mk:Nat}{p:uJ}{fr:Fr}{O:u0}{nx:Nat}{K:Fr->u0->Nat->Prop}(a b c s:Nat)
 (ha:wO M ops p ((b,YF)::(c,YF)::(a,YF)::(s, .bool false)::fr) O nx K->wK M ops i mi fr O nx fun fr O nx=>wO M ops (.take k mk (.take j mj (.join p))) fr O nx K)
 (hb:wO M ops p ((b,YF)::(c,YF)::(a,YF)::(s, .bool false)::fr) O nx K->wK M ops j mj fr O nx fun fr O nx=>wO M ops (.take i mi (.take k mk (.join p))) fr O nx K)
 (r:wO M ops p ((b,YF)::(c,YF)::(a,YF)::(s, .bool false)::fr) O nx K):
 w6 (wK M ops i mi fr O nx fun fr O nx=>wO M ops (.take k mk (.take j mj (.join p))) fr O nx K) (wK M ops j mj fr O nx fun fr O nx=>wO M ops (.take i mi (.take k mk (.join p))) fr O nx K):=⟨ha r,hb r⟩
theorem wK.pass{M:Mx}{ops:List Oper}{i m:Nat}{fr:Fr}{O:u0}{nx:Nat}{K:Fr->u0->Nat->Prop}{o:Oper}{g s a:Nat}{e:Bool}
 (h1:nth ops i=some o) (h2:o.guard=some (g,true)) (h3:Ue ops g=some s) (h4:u6 s fr=some (.bool e)) (he:e=false) (h5:o.dst=some a) (h6:Nat.blt a M.C.N=true)
 (h:K ((a,YF)::(s, .bool false)::fr) O nx):wK M ops i m fr O nx K:=by
 subst he;unfold wK;simp only[h1,h2,h3,h4,h5,Jj,h6,wJ];exact IF.ff h
theorem w6.pass{M:Mx}{ops:List Oper}{i mi j mj k mk:Nat}{p:uJ}{fr:Fr}{O:u0}{nx:Nat}{K:Fr->u0->Nat->Prop}(a b c s:Nat){oi oj ok:Oper}{gi gj gk:Nat}{e:Bool}
 (hi:nth ops i=some oi) (hj:nth ops j=some oj) (hk:nth ops k=some ok)
 (ei:oi.guard=some (gi,true)) (ej:oj.guard=some (gj,true)) (ek:ok.guard=some (gk,true))
 (si:Ue ops gi=some s) (sj:Ue ops gj=some s) (sk:Ue ops gk=some s)
 (di:oi.dst=some a) (dj:oj.dst=some b) (dk:ok.dst=some c)
 (ni:Nat.blt a M.C.N=true) (nj:Nat.blt b M.C.N=true) (nk:Nat.blt c M.C.N=true)
 (hf:u6 s fr=some (.bool e)) (he:e=false)
 (hd:(a≠s/\b≠s/\c≠s)/\a≠b/\a≠c/\b≠c)
 (r:wO M ops p ((b,YF)::(c,YF)::(a,YF)::(s, .bool false)::fr) O nx K):
 w6 (wK M ops i mi fr O nx fun fr O nx=>wO M ops (.take k mk (.take j mj (.join p))) fr O nx K) (wK M ops j mj fr O nx fun fr O nx=>wO M ops (.take i mi (.take k mk (.join p))) fr O nx K):=by
 have l1:∀{v:SV} {t:Nat},t≠s->u6 s ((t,v)::(s, .bool false)::fr)=some (.bool false):=fun h=>by
  rw[Z6,z6 (fun h'=>h h'.symm),Z6,z8 rfl]
 obtain⟨⟨a1,a2,a3⟩,hd2⟩:=id hd
 have l2:∀{v w:SV} {t u:Nat},t≠s->u≠s->u6 s ((t,v)::(s, .bool false)::(u,w)::(s, .bool false)::fr)=some (.bool false):=fun h _=>by
  rw[Z6,z6 (fun h'=>h h'.symm),Z6,z8 rfl]
 constructor
 .refine wK.pass hi ei si hf he di ni ?_;show wK M ops k mk _ O nx fun fr O nx=>wO M ops (.take j mj (.join p)) fr O nx K
  refine wK.pass hk ek sk (l1 a1) rfl dk nk ?_;show wK M ops j mj _ O nx fun fr O nx=>wO M ops (.join p) fr O nx K
  refine wK.pass hj ej sj (l2 a3 a1) rfl dj nj ?_;exact eU.ij r hd
 .refine wK.pass hj ej sj hf he dj nj ?_;show wK M ops i mi _ O nx fun fr O nx=>wO M ops (.take k mk (.join p)) fr O nx K
  refine wK.pass hi ei si (l1 a2) rfl di ni ?_;show wK M ops k mk _ O nx fun fr O nx=>wO M ops (.join p) fr O nx K
  refine wK.pass hk ek sk (l2 a1 a2) rfl dk nk ?_;exact eU.ji r hd
def Vp(acc:List Nat)(o:Oper):Nat:=o.after.foldl (fun s e=>if Region.binds .any e then s|||2^e.on|||acc.getD e.on 0 else s) 0
def oM:List Oper->List Nat->List Nat
 | [],acc=>acc
 |o::r,acc=>oM r (acc++ [Vp acc o])
def th(i:Nat):Nat->List Nat->List Nat
 |0,l=>i::l
 |_,l=>l
def rB(m:Nat):Bool:=m==0||m==3
def ZG:uJ->List Nat
 | .nil=>[]
 | .take i 0 t=>i::ZG t
 | .take _ _ t=>ZG t
 | .fork i mi j mj a b=>th i mi (th j mj (ZG a++ZG b))
 | .aQ i mi j mj k mk a b c=>th i mi (th j mj (th k mk (ZG a++(ZG b++ZG c))))
 | .join t=>ZG t
def J0(ops:Array Oper)(ms:List Nat):uJ->Array Bool->Bool
 | .nil,l=>(Region.ready .any ops l).isEmpty
 | .take i m rest,l=>
   (match m with
    |0=>Region.ready .any ops l==[i]
    |1=>(Region.ready .any ops l).contains i&&Region.free .any ops l i&& (ZG rest).all (fun k=>k !=i)
    |2=>(Region.ready .any ops l).contains i&&Region.free .any ops l i&& (ZG rest).all (fun k=>k !=i&& (ms.getD k 0).testBit i)
    |_=>Region.ready .any ops l==[i])&&
   J0 ops ms rest (l.setIfInBounds i true)
 | .fork i mi j mj a b,l=>Region.ready .any ops l==[i,j]&&rB mi&&rB mj&&a.depth==b.depth&&J0 ops ms a (l.setIfInBounds i true)&&J0 ops ms b (l.setIfInBounds j true)
 | .aQ i mi j mj k mk a b c,l=>Region.ready .any ops l==[i,j,k]&&rB mi&&rB mj&&rB mk&&a.depth==b.depth&&a.depth==c.depth&&J0 ops ms a (l.setIfInBounds i true)&&J0 ops ms b (l.setIfInBounds j true)&&J0 ops ms c (l.setIfInBounds k true)
 | .join t,l=>J0 ops ms t l
def Ca(ops:Array Oper)(steps:uJ):Bool:=
 Region.noSelect ops&&steps.depth==ops.size&&J0 ops (oM ops.toList []) steps (Array.replicate ops.size false)
end Go.Sx
namespace Go.Sx
open Go
theorem NC:∀(os:List Oper) (acc:List Nat),(oM os acc).take acc.length=acc/\∀j o,os[j]?=some o->(oM os acc)[acc.length+j]?=some (Vp ((oM os acc).take (acc.length+j)) o)
 | [],acc=>⟨by simp[oM],fun j o h=>by simp at h⟩
 |o::os,acc=>by
  simp only[oM];obtain⟨h1,h2⟩:=NC os (acc++ [Vp acc o]);simp only[ze,List.length_singleton]at h1 h2
  have h0:(oM os (acc++ [Vp acc o])).take acc.length=acc:=by
   have:=zf (List.take acc.length) h1;rw[List.take_take]at this;simpa using this
  refine⟨h0,fun j o' hj=>?_⟩;cases j with
  |zero=>
   simp at hj;subst hj;rw[Nat.add_zero,h0];have:=zf (fun l:List Nat=>l[acc.length]?) h1;simpa[y4]using this
  |succ j=>
   have:=h2 j o' (by simpa using hj);rw[show acc.length+(j+1)=acc.length+1+j by omega];exact this
theorem Z4a{acc:List Nat}{o:Oper}{i:Nat}(h:(Vp acc o).testBit i=true):∃e∈o.after,Region.binds .any e=true/\(e.on=i\/(acc.getD e.on 0).testBit i=true):=by
 unfold Vp at h;rw[<-Array.foldl_toList]at h
 have key:∀(es:List Edge) (s:Nat),(es.foldl (fun s e=>if Region.binds .any e then s|||2^e.on|||acc.getD e.on 0 else s) s).testBit i=true->
  s.testBit i=true\/∃e∈es,Region.binds .any e=true/\(e.on=i\/(acc.getD e.on 0).testBit i=true):=by
  intro es
  induction es with
  |nil=>intro s h;exact .inl h
  |cons e es ih=>
   intro s h;simp only[List.foldl_cons]at h;rcases ih _ h with h|⟨e',he',h⟩
   .split at h
    .rename_i hb;simp only[Nat.testBit_or,xD]at h;rcases h with(h|h)|h
     exact .inl h
     .refine .inr ⟨e,zF ..,hb, .inl ?_⟩;rw[Nat.testBit_two_pow]at h;simpa using h
     exact .inr ⟨e,zF ..,hb, .inr h⟩
    exact .inl h
   exact .inr ⟨e',zG _ he',h⟩
 rcases key _ _ h with h|⟨e,he,h⟩
 simp at h;exact⟨e,by simpa using he,h⟩
theorem Z6V{ops:Array Oper}{l:Array Bool}(hc:qM .any ops l){i:Nat}:∀(k:Nat),((oM ops.toList []).getD k 0).testBit i=true->l.getD k false=true->l.getD i false=true:=by
 intro k
 induction k using Nat.strongRecOn with
 |_ k ih=>
  intro h hk;cases hg:(oM ops.toList [])[k]? with
  |none=>rw[zi,hg]at h;simp at h
  |some m=>
   have hlt:k<ops.size:=by
    rcases yD k ops.size with h'|h'
    exact h'
    .rw[<-hc.1]at h';simp[xJ h']at hk
   have ho:ops[k]?=some ops[k]:=yM hlt;have hm:=(NC ops.toList []).2 k ops[k] (by simp);simp only[List.length_nil,zw]at hm;rw[zi,hm,Option.getD_some]at h;obtain⟨e,he,hb,h⟩:=Z4a h;have ND:=hc.2 k _ ho hk e he hb;rcases h with rfl|h
   exact ND
   .rw[zi,y4]at h;split at h
    .rename_i hlt';exact ih e.on hlt' (by rw[zi];exact h) ND
    simp at h
def agree(w w':World):Prop:=∀k,k<w.heap.size->w'.heap[k]?=w.heap[k]?
theorem agree.refl(w:World):agree w w:=fun _ _=>rfl
theorem agree.trans{a b c:World}(h:agree a b)(k:agree b c):agree a c:=fun n hn=>by
 have h1:=h n hn
 have hlt:n<b.heap.size:=by
  rw[yM hn]at h1;exact(zC.1 h1).1
 rw[k n hlt,h1]
section
variable {M:Mx}{J:Env}{w:World}{O:u0}{nx:Nat}
theorem WF{C:Cx}:∀{O:u0} {j:Nat},kI (.loc j) (UM O++C.S)=Yv C O (.loc j)
 | [],j=>by simp[UM,Yv,u6]
 |(i,h)::r,j=>by
  have ih:=WF (C:=C) (O:=r) (j:=j);simp only[UM,List.cons_append,kI,aZ,Yv,u6];cases e:Nat.beq j i
  simp only[e];rw[ih];rfl;simp only[e]
theorem Cb{C:Cx}{O:u0}{b:wG}:bM (Q7 C O) b=Yv C O b:=by
 cases b with
 |uM g=>rfl
 |loc j=>exact WF
theorem vU.read(H:vU M J w O nx){w':World}(hag:agree w w'):vU (bg M O J w') J w' [] nx:=by
 refine⟨zx,H.len,⟨fun i h hi=>by simp[u6]at hi,fun i j h h' n hi=>by simp[u6]at hi⟩,jw.refl _ _,fun b h hb=>?_⟩;have hb':Yv M.C O b=some h:=by rw[<-Cb];exact hb
 have uc:=H.look hb';have tj:∀k,u5 J w b h k->w'.heap[k]?=w.heap[k]?:=fun k f=>hag _ (uc.uL f);have hs':=uc.keep tj;exact⟨hs',fun k f=>⟨hs'.uL f,fun h=>h⟩⟩
theorem vU.blind(hl:J.length=nx)(w:World):vU (Kx M J w) J w [] nx:=
 ⟨zx,hl,⟨fun i h hi=>by simp[u6]at hi,fun i j h h' n hi=>by simp[u6]at hi⟩,jw.refl _ _,fun b h hb=>by cases b<;>simp[Kx,Kw,bM,kI,u6]at hb⟩
theorem vU.join(H:vU M J w O nx){η':Env}{w':World}{O2:u0}{oq:Nat}(H2:vU (bg M O J w) η' w' O2 oq):vU M η' w' (O2++O) oq/\agree w w':=by
 have hag:agree w w':=fun k hk=>H2.fr.block k hk (fun h=>h);have hp:J<+:η':=H2.pre
 have old:∀{i:Nat} {h:Hp},u6 i O=some h->vV η' w' true (.loc i) h/\∀k,u5 η' w' (.loc i) h k->u5 J w (.loc i) h k/\k<w.heap.size:=by
  intro i h hi;obtain⟨uc,hF⟩:=H.own.1 i h hi;have hk:∀k,u5 J w (.loc i) h k->w'.heap[k]?=w.heap[k]?:=fun k f=>hag _ (uc.uL f);refine⟨(uc.keep (w':=w') hk).mono hp,fun k f=>?_⟩;have f':=H.stands hp hi hk f;exact⟨f',uc.uL f'⟩
 refine⟨⟨H.pre.trans hp,H2.len,⟨fun i h hi=>?_,fun i j h h' k hi hj hij f f'=>?_⟩,H.fr.trans H2.fr (fun n hn=>hn.elim),H.wH⟩,hag⟩
 .rcases XW hi with hi|⟨_,hi⟩
  .obtain⟨h1,h2⟩:=H2.own.1 i h hi;refine⟨h1,fun k f=> .inr ?_⟩;rcases h2 k f with h3|h3
   exact h3.elim;exact zK H.fr.size h3
  .obtain⟨h1,h2⟩:=old hi;exact⟨h1,fun k f=>(H.own.1 i h hi).2 k (h2 k f).1⟩
 .rcases XW hi with hi|⟨_,hi⟩
  .rcases XW hj with hj|⟨_,hj⟩
   exact H2.own.2 i j h h' k hi hj hij f f'
   .have h1:=((old hj).2 k f').2;rcases(H2.own.1 i h hi).2 k f with h3|h3
    exact h3.elim
    .have h3:w.heap.size<=k:=h3;omega
  .rcases XW hj with hj|⟨_,hj⟩
   .have h1:=((old hi).2 k f).2;rcases(H2.own.1 j h' hj).2 k f' with h3|h3
    exact h3.elim
    .have h3:w.heap.size<=k:=h3;omega
   exact H.own.2 i j h h' k hi hj hij ((old hi).2 k f).1 ((old hj).2 k f').1
theorem Z8p{v:SV}{K:Prop}(h:FT v K):b9 v/\K:=by
 cases v with
 |agg cs=>
  simp only[FT]at h;split at h
  rename_i e;exact⟨b9.of (by simpa only[gy]using e),h⟩;exact⟨h.p,h.k⟩
 |uI cs=>
  simp only[FT]at h;split at h
  rename_i e;exact⟨b9.of (by simpa only[gy]using e),h⟩;exact⟨h.p,h.k⟩
 |_=>first|exact⟨h.p,h.k⟩|exact⟨b9.of rfl,h⟩
theorem NF{P:Program}{C':Cx}(hT:ux P C'.T){N:World->Prop}{o:Oper}{a:Act}{fr:Fr}{nx N0:Nat}{K:SV->Prop}(hf:jm J a fr)
 (hN:∀w',N w'->vU ⟨P,C',w',fun _=>False,J,none⟩ J w' [] nx) (hw:N w) (h:Q8 N0 C' o fr nx K):
 Jj N0 o.dst=true/\∃u v,(∀w',N w'->(execOp a.eval o).run P w'= .ok (.value u) w'\/((execOp a.eval o).run P w'= .ok .skip w'/\u=undef))/\Den J v u/\K v:=by
 unfold Q8 at h;split at h
 exact h.out.elim;rename_i hd;refine⟨hd,?_⟩;split at h
 .rename_i x ho;split at h
  case h_2=>exact h.out.elim
  rename_i v hv;exact⟨a.eval x,v,fun w' _=> .inl (by simp[execOp,ho]),Yn hf hv,h⟩
 .rename_i x ho;split at h
  case h_2=>exact h.out.elim
  rename_i v hv;exact⟨a.eval x,v,fun w' _=> .inl (by simp[execOp,ho]),Yn hf hv,h⟩
 .split at h
  exact h.out.elim;rename_i hst;obtain⟨v,hok,h⟩:=uz.aN h;obtain⟨Cc,h⟩:=Z8p h
  have one:∀w',N w'->∃u,((execOp a.eval o).run P w'= .ok (.value u) w'\/((execOp a.eval o).run P w'= .ok .skip w'/\u=undef))/\Den J v u:=by
   intro w' hw';have H:=hN w' hw';obtain⟨u,w'',η'',h1,h2,h3,h4,h5⟩:=DK (M:=⟨P,C',w',fun _=>False,J,none⟩) (w:=w') (ρ:=a.eval) ⟨H,hT,fun x sv hx=>Yn hf hx⟩ o (hok [] nx);have he:η''=J:=(h2.eq_of_length (by rw[H.len,h3.len])).symm;subst he;have hww:=h5 hst rfl;subst hww;exact⟨u,h1,h4⟩
  obtain⟨u,h1,h2⟩:=one w hw;refine⟨u,v,fun w' hw'=>?_,h2,h⟩;obtain⟨u',h3,h4⟩:=one w' hw';rw[Cc J u u' h2 h4];exact h3
end
def SS(ks:List Nat)(wc:World)(l:Array Bool)(w:World):Prop:=(∀k∈ks,l.getD k false=false)->agree wc w
section
variable {M:Mx}{ops:Array Oper}{Q:Exit->Act->World->Prop}
theorem XK{i m:Nat}{rest:uJ}(h:m≠0):ZG (.take i m rest)=ZG rest:=by
 cases m with
 |zero=>exact(h rfl).elim
 |succ m=>rfl
theorem Z6W{i:Nat}{rest:uJ}:ZG (.take i 0 rest)=i::ZG rest:=rfl
theorem Z09{l:Array Bool}{i:Nat}(h:l.getD i true=false):l.getD i false=false:=by
 rcases yD i l.size with h'|h'
 simp[h']at h⊢;exact h;simp[xJ h']at h
theorem UN{J:Env}{fr:Fr}{O:u0}{nx:Nat}{a:Act}{w:World}(hm:u7 M J fr O nx a w){o:Oper}(hd:Jj M.C.N o.dst=true){u:Value}{v:SV}(hv:Den J v u){Kp:Fr->Prop}(hk:wJ o.dst v fr Kp):
 ∃fr',Kp fr'/\u7 M J fr' O nx (a.put o.dst u) w:=hm.put hd zx hm.heap hv hk
theorem VK(hQ:∀c a w, ¬Q (.panic c) a w)(hs:Region.noSelect ops=true){i n:Nat}{o:Oper}{l:Array Bool}{ks:List Nat}(ho:ops[i]?=some o)(ga:i∈Region.ready .any ops l)(hfree:Region.free .any ops l i=true)(hne:∀k∈ks,k≠i)(hc:qM .any ops l)
 {N:World->Prop} {wc:World} (hN:∀l w,qM .any ops l->l.getD i true=false->SS ks wc l w->N w) {a:Act} {w:World} {u:Value} (hy:qA M.P ops N o u a) (hag:agree wc w)
 (h:dS M.uq M.P .any ops Q (SS ks wc) n (l.setIfInBounds i true) (a.put o.dst u) w):dS M.uq M.P .any ops Q (SS ks wc) (n+1) l a w:=by
 refine ZcK M.all ho (Region.noSelect_spec hs) (fun c a w hq=>(hQ _ _ _ hq).elim) hN (fun l' w' dU hun hr hS hk=>hS fun k hk'=>?_) n l a w hc (Region.free_spec ho hfree) ga hy (fun _=>hag) (fun _=>hag) h;rw[getD_set_ne false (yO (hne k hk'))];exact hk k hk'
theorem vU.drawn{J:Env}{w:World}{O:u0}{nx:Nat}(H:vU M J w O nx){n:Nat}(hn:w.drawn<=n):vU M J {w with drawn:=n} O nx:=
 ⟨H.pre,H.len,H.own.still rfl,⟨H.fr.os,H.fr.tape,H.fr.output,zK H.fr.drawn hn,H.fr.size,H.fr.block⟩,H.wH⟩
theorem NG{m:Nat}(h:rB m=true):m=0\/m=3:=by
 unfold rB at h;simpa using h
theorem ZQ{i m:Nat}{l:List Nat}{x:Nat}(h:x∈l):x∈th i m l:=by
 cases m with
 |zero=>exact zG _ h
 |succ m=>exact h
theorem JE{i:Nat}{l:List Nat}:i∈th i 0 l:=zF ..
theorem Zi3(hT:ux M.P M.C.T){i m:Nat}(Kz:m=0\/m=3){fr:Fr}{O:u0}{nx:Nat}{Kn:Fr->u0->Nat->Prop}(h:wK M ops.toList i m fr O nx Kn){J:Env}{a:Act}{w:World}(hm:u7 M J fr O nx a w){R:Act->World->Prop}
 (hR:∀{fr:Fr} {O:u0} {nx:Nat} {J:Env} {a:Act} {w':World},Kn fr O nx->u7 M J fr O nx a w'->(m=3->agree w w')->R a w'):wpOpIn M.uq 0 M.P ops Q i R a w:=by
 unfold wK at h;split at h
 exact h.out.elim;rename_i o ho;have ho:ops[i]?=some o:=by rw[V9]at ho;simpa using ho
 have skip:∀{fr':Fr},u7 M J fr' O nx a w->Region.wanted o (yielded ops a.tmps)≠true->(match Jj M.C.N o.dst with|true=>wJ o.dst YF fr' fun fr=>Kn fr O nx|false=>uE "slot")->wpOpIn M.uq 0 M.P ops Q i R a w:=by
  intro fr' hm' hw h;split at h
  case h_2=>exact h.out.elim
  rename_i hd;obtain⟨fK,h1,h2⟩:=UN hm' hd (JC J) h;unfold wpOpIn;simp only[ho];rw[z6 hw];exact⟨fun f _=>M.all f,hR h1 h2 fun _=>agree.refl w⟩
 have go:∀{fr':Fr},u7 M J fr' O nx a w->Region.wanted o (yielded ops a.tmps)=true->(Ky M m o fr' O nx fun v O nx=>wJ o.dst v fr' fun fr=>Kn fr O nx)->wpOpIn M.uq 0 M.P ops Q i R a w:=by
  intro fr' hm' hw h;unfold wpOpIn;simp only[ho];rw[z8 hw];rcases Kz with rfl|rfl
  .have h:oW M o (Jx fr') O nx fun v O nx=>wJ o.dst v fr' fun fr=>Kn fr O nx:=h;refine(JZ hT hm' (fun x sv hx=>Yn hm'.frame hx) h fun u v O' vZ η' w' hd hp hH hv hk=>?_);obtain⟨fK,h1,h2⟩:=hm'.put hd hp hH hv hk;exact hR h1 h2 fun h=>by cases h
  .have h:qW M o fr' O nx fun v O nx=>wJ o.dst v fr' fun fr=>Kn fr O nx:=h;have hm2:u7 (bg M O J w) J fr' [] nx a w:=⟨hm'.heap.read (agree.refl w),hm'.size,hm'.fN,hm'.defers,hm'.ro,hm'.frame⟩;refine(JZ (M:=bg M O J w) hT hm2 (fun x sv hx=>Yn hm'.frame hx) (h.hout J w hm'.heap) fun u v O2 oq η' w' hd hp hH hv hk=>?_);obtain⟨hJ,ot⟩:=hm'.heap.join hH;obtain⟨fK,h1,h2⟩:=hm'.put hd hp hJ hv hk;exact hR h1 h2 fun _=>ot
 split at h
 .rename_i hg;exact go hm (XR hg) h
 .rename_i j want hg;split at h
  exact h.out.elim;rename_i s fZ;split at h
  .rename_i b hb;have qE:=YS (hm.frame s _ hb);have hy:=Vn fZ qE;cases b with
   |true=>
    have h:=h.t rfl;have hm':u7 M J ((s, .bool true)::fr) O nx a w:=hm.know hb rfl rfl qE;cases want with
    |true=>exact go hm' ((Zy hg).2 hy) h
    |false=>exact skip hm' (fun hw=>by rw[Zy hg,hy]at hw;cases hw) h
   |false=>
    have h:=h.f rfl;have hm':u7 M J ((s, .bool false)::fr) O nx a w:=hm.know hb rfl rfl qE;cases want with
    |false=>exact go hm' ((Zy hg).2 hy) h
    |true=>exact skip hm' (fun hw=>by rw[Zy hg,hy]at hw;cases hw) h
  .rename_i hb;have qE:=hm.frame s _ hb;simp only[Den,vX]at qE;obtain⟨vs,qE,rfl⟩:=qE;exact skip hm (fun hw=>by rw[Zy hg]at hw;exact VE fZ (by rw[qE];simp) hw) h
  exact h.out.elim
theorem arm(hT:ux M.P M.C.T){fk t:uJ}{d:Nat}{fr:Fr}{O:u0}{nx:Nat}{K:Fr->u0->Nat->Prop}{J:Env}{a:Act}{w wc:World}{l:Array Bool}(hm:u7 M J fr O nx a w)(hag:agree wc w)(hc:qM .any ops l)
 {x m:Nat} (hmo:rB m=true) (hx:x∈Region.ready .any ops l) (FU:m=0->x∈ZG fk) (hsub:∀k∈ZG t,k∈ZG fk) (hd:t.depth=d)
 (ih:∀{fr:Fr} {O:u0} {nx:Nat} {J:Env} {a:Act} {w wc:World},wO M ops.toList t fr O nx K->u7 M J fr O nx a w->agree wc w->dS M.uq M.P .any ops Q (SS (ZG t) wc) t.depth (l.setIfInBounds x true) a w)
 (hrun:wK M ops.toList x m fr O nx fun fr O nx=>wO M ops.toList t fr O nx K):
 wpOpIn M.uq 0 M.P ops Q x (fun a' w'=>SS (ZG fk) wc (l.setIfInBounds x true) w'/\dS M.uq M.P .any ops Q (SS (ZG fk) wc) d (l.setIfInBounds x true) a' w') a w:=by
 have hin:x<l.size:=by
  obtain⟨h1,o,ho,_⟩:=mem_ready.1 hx;rw[hc.1];exact(zC.1 ho).1
 have qo:(l.setIfInBounds x true).getD x false=true:=by simp[hin]
 refine Zi3 hT (NG hmo) hrun hm fun{fr O nx J a w'} hk hm' tj=>?_;rcases NG hmo with h0|h3
 .have hno:∀l' w',fW (l.setIfInBounds x true) l'->SS (ZG fk) wc l' w':=by
   intro l' w' hg hk;have h1:=hk x (FU h0);rw[hg x qo]at h1;cases h1
  refine⟨hno _ _ (fun _ h=>h),?_⟩;have:=ih hk hm' (agree.refl _);rw[hd]at this;exact Kt (l0:=l.setIfInBounds x true) (fun l' w' hg _=>hno l' w' hg) _ _ _ _ (fun _ h=>h) this
 .have ot:agree wc w':=hag.trans (tj h3);refine⟨fun _=>ot,?_⟩;have:=ih hk hm' ot;rw[hd]at this;exact Kt (l0:=l.setIfInBounds x true) (fun l' w'' hg hS hk=>hS fun k hkt=>hk k (hsub k hkt)) _ _ _ _ (fun _ h=>h) this
theorem XA(hT:ux M.P M.C.T)(hQ:∀c a w, ¬Q (.panic c) a w)(hs:Region.noSelect ops=true):∀(steps:uJ) {fr:Fr} {O:u0} {nx:Nat} {K:Fr->u0->Nat->Prop},wO M ops.toList steps fr O nx K->
 ∀{l:Array Bool},J0 ops (oM ops.toList []) steps l=true->qM .any ops l->∀{J:Env} {a:Act} {w:World},u7 M J fr O nx a w->(∀J fr O nx a w,u7 M J fr O nx a w->K fr O nx->Q .normal a w)->
 ∀{wc:World},agree wc w->dS M.uq M.P .any ops Q (SS (ZG steps) wc) steps.depth l a w
 | .nil,fr,O,nx,K,h,l,hl,hc,J,a,w,hm,hq,wc,hag=>by
   simp only[J0,List.isEmpty_iff]at hl;exact⟨hl,hq J fr O nx a w hm h⟩
 | .take i m rest,fr,O,nx,K,h,l,hl,hc,J,a,w,hm,hq,wc,hag=>by
   have IH:= @XA hT hQ hs rest
   replace h:wK M ops.toList i m fr O nx (fun fr O nx=>wO M ops.toList rest fr O nx K):=h
   unfold wK at h;split at h
   exact h.out.elim;rename_i o ho;have ho:ops[i]?=some o:=by rw[V9]at ho;simpa using ho
   simp only[J0,zk]at hl;obtain⟨kZ,o9⟩:=hl
   have ga:i∈Region.ready .any ops l:=by
    revert kZ;split<;>intro kZ
    rw[xC.1 kZ];exact zJ.2 rfl;simp only[zk]at kZ;simpa using kZ.1.1;simp only[zk]at kZ;simpa using kZ.1.1;rw[xC.1 kZ];exact zJ.2 rfl
   have dU:=hc.set ga;have hin:i<l.size:=by rw[hc.1];exact(zC.1 ho).1
   have qo:(l.setIfInBounds i true).getD i false=true:=by simp[hin]
   have rC:∀{p:Prop},(m=0->p)->(m=1->p)->(m=2->p)->(3<=m->p)->p:=by
    intro p h0 h1 h2 h3
    match m,h0,h1,h2,h3 with
    |0,h0,_,_,_=>exact h0 rfl
    |1,_,h1,_,_=>exact h1 rfl
    |2,_,_,h2,_=>exact h2 rfl
    |m+3,_,_,_,h3=>exact h3 (by omega)
   have alone:Region.ready .any ops l=[i]->∀{a:Act} {w:World},agree wc w->wpOpIn M.uq 0 M.P ops Q i (fun a' w'=>SS (ZG (.take i m rest)) wc (l.setIfInBounds i true) w'/\dS M.uq M.P .any ops Q (SS (ZG (.take i m rest)) wc) rest.depth (l.setIfInBounds i true) a' w') a w->
    dS M.uq M.P .any ops Q (SS (ZG (.take i m rest)) wc) (uJ.take i m rest).depth l a w:=fun hr a w hag h=>Zi2 hr h
   have dy:m=0->∀{fr:Fr} {O:u0} {nx:Nat} {J:Env} {a:Act} {w:World},wO M ops.toList rest fr O nx K->u7 M J fr O nx a w->
    SS (ZG (.take i m rest)) wc (l.setIfInBounds i true) w/\dS M.uq M.P .any ops Q (SS (ZG (.take i m rest)) wc) rest.depth (l.setIfInBounds i true) a w:=by
    intro h0 fr O nx J a w hrun hm;subst h0;rw[Z6W]
    have hno:∀l' w',fW (l.setIfInBounds i true) l'->SS (i::ZG rest) wc l' w':=by
     intro l' w' hg hk;have h1:=hk i (zF ..);rw[hg i qo]at h1;cases h1
    exact⟨hno _ _ (fun _ h=>h),Kt (l0:=l.setIfInBounds i true) (fun l' w' hg _=>hno l' w' hg) _ _ _ _ (fun _ h=>h) (IH hrun o9 dU hm hq (agree.refl w))⟩
   have j3:m≠0->∀{fr:Fr} {O:u0} {nx:Nat} {J:Env} {a:Act} {w:World},wO M ops.toList rest fr O nx K->u7 M J fr O nx a w->agree wc w->
    SS (ZG (.take i m rest)) wc (l.setIfInBounds i true) w/\dS M.uq M.P .any ops Q (SS (ZG (.take i m rest)) wc) rest.depth (l.setIfInBounds i true) a w:=by
    intro h0 fr O nx J a w hrun hm hag;rw[XK h0];exact⟨fun _=>hag,IH hrun o9 dU hm hq hag⟩
   have dV:m=1->Region.free .any ops l i=true/\∀k∈ZG rest,k≠i:=by
    intro h1;subst h1;simp only[zk,zN,bne_iff_ne]at kZ;exact⟨kZ.1.2,kZ.2⟩
   have e7:m=2->Region.free .any ops l i=true/\∀k∈ZG rest,k≠i/\((oM ops.toList []).getD k 0).testBit i=true:=by
    intro h1;subst h1;simp only[zk,zN,bne_iff_ne]at kZ;exact⟨kZ.1.2,kZ.2⟩
   have pY:m=0->Region.ready .any ops l=[i]:=by intro h1;subst h1;exact xC.1 kZ
   have pZ:3<=m->Region.ready .any ops l=[i]:=by
    intro h1
    match m,h1,kZ with
    |m+3,_,kZ=>exact xC.1 kZ
   have skip:∀{fr':Fr},u7 M J fr' O nx a w->Region.wanted o (yielded ops a.tmps)≠true->(match Jj M.C.N o.dst with|true=>wJ o.dst YF fr' fun fr=>wO M ops.toList rest fr O nx K|false=>uE "slot")->
    dS M.uq M.P .any ops Q (SS (ZG (.take i m rest)) wc) (uJ.take i m rest).depth l a w:=by
    intro fr' hm' hw h;split at h
    case h_2=>exact h.out.elim
    rename_i hd;obtain⟨fK,h1,h2⟩:=UN hm' hd (JC J) h;have hwf:Region.wanted o (yielded ops a.tmps)=false:=by simpa using hw
    have op:∀{K':Act->World->Prop},K' (a.put o.dst undef) w->wpOpIn M.uq 0 M.P ops Q i K' a w:=by
     intro K' hk;unfold wpOpIn;simp only[ho];rw[z6 hw];exact⟨fun f _=>M.all f,hk⟩
    refine rC (fun h0=>alone (pY h0) hag (op (dy h0 h1 h2))) (fun h0=>?_) (fun h0=>?_) (fun h0=>alone (pZ h0) hag (op (j3 (by omega) h1 h2 hag)))
    .have hn:m≠0:=by omega
     have:=(j3 hn h1 h2 hag).2;rw[XK hn]at this⊢;exact VK hQ hs ho ga (dV h0).1 (dV h0).2 hc (N:=fun _=>True) (fun _ _ _ _ _=>trivial) (.inr ⟨hwf,rfl⟩) hag this
    .have hn:m≠0:=by omega
     have:=(j3 hn h1 h2 hag).2;rw[XK hn]at this⊢;exact VK hQ hs ho ga (e7 h0).1 (fun k hk=>((e7 h0).2 k hk).1) hc (N:=fun _=>True) (fun _ _ _ _ _=>trivial) (.inr ⟨hwf,rfl⟩) hag this
   have go:∀{fr':Fr},u7 M J fr' O nx a w->Region.wanted o (yielded ops a.tmps)=true->(Ky M m o fr' O nx fun v O nx=>wJ o.dst v fr' fun fr=>wO M ops.toList rest fr O nx K)->
    dS M.uq M.P .any ops Q (SS (ZG (.take i m rest)) wc) (uJ.take i m rest).depth l a w:=by
    intro fr' hm' hw h
    have op:∀{K':Act->World->Prop},o.wpIn M.uq 0 M.P a w K' Q->wpOpIn M.uq 0 M.P ops Q i K' a w:=by
     intro K' hk;unfold wpOpIn;simp only[ho];rw[z8 hw];exact hk
    refine rC (fun h0=>?_) (fun h0=>?_) (fun h0=>?_) (fun h0=>?_)
    .have h:oW M o (Jx fr') O nx fun v O nx=>wJ o.dst v fr' fun fr=>wO M ops.toList rest fr O nx K:=by subst h0;exact h
     refine alone (pY h0) hag (op (JZ hT hm' (fun x sv hx=>Yn hm'.frame hx) h fun u v O' vZ η' w' hd hp hH hv hk=>?_));obtain⟨fK,h1,h2⟩:=hm'.put hd hp hH hv hk;exact dy h0 h1 h2
    .have h:Q8 M.C.N (Kw M.C) o fr' nx fun v=>wJ o.dst v fr' fun fr=>wO M ops.toList rest fr O nx K:=by subst h0;exact h
     obtain⟨hd,u,v,hy,hv,hk⟩:=NF (P:=M.P) (C':=Kw M.C) ⟨hT.qY,hT.info,hT.zero,hT.r5,hT.flat,hT.key⟩ (N:=fun _=>True) (w:=w) hm'.frame (fun w' _=>vU.blind (M:=M) hm'.heap.len w') trivial h;obtain⟨fK,h1,h2⟩:=UN hm' hd hv hk;have hn:m≠0:=by omega
     have:=(j3 hn h1 h2 hag).2;rw[XK hn]at this⊢;exact VK hQ hs ho ga (dV h0).1 (dV h0).2 hc (N:=fun _=>True) (fun _ _ _ _ _=>trivial) (.inl ⟨hw,fun w' h=>hy w' h⟩) hag this
    .have h:Q8 M.C.N (Q7 M.C O) o fr' nx fun v=>wJ o.dst v fr' fun fr=>wO M ops.toList rest fr O nx K:=by subst h0;exact h
     obtain⟨hd,u,v,hy,hv,hk⟩:=NF (P:=M.P) (C':=Q7 M.C O) hT (N:=agree w) hm'.frame (fun w' h=>hm'.heap.read h) (agree.refl w) h;obtain⟨fK,h1,h2⟩:=UN hm' hd hv hk;have hn:m≠0:=by omega
     have:=IH h1 o9 dU h2 hq (agree.refl w);rw[XK hn];refine Kt (S':=SS (ZG rest) w) (l0:=l) (fun l' w' _ hS hk=>hag.trans (hS hk)) _ _ _ _ (fun _ h=>h) ?_;refine VK hQ hs ho ga (e7 h0).1 (fun k hk=>((e7 h0).2 k hk).1) hc (N:=agree w) (fun l' w' fL hun hS=>hS fun k hk=>?_) (.inl ⟨hw,fun w' h=>hy w' h⟩) (agree.refl w) this;cases hlk:l'.getD k false with
     |false=>rfl
     |true=>
      have:=Z6V fL k ((e7 h0).2 k hk).2 hlk;rw[Z09 hun]at this;cases this
    .have h:qW M o fr' O nx fun v O nx=>wJ o.dst v fr' fun fr=>wO M ops.toList rest fr O nx K:=by
      match m,h0,h with
      |m+3,_,h=>exact h
     have hm2:u7 (bg M O J w) J fr' [] nx a w:=⟨hm'.heap.read (agree.refl w),hm'.size,hm'.fN,hm'.defers,hm'.ro,hm'.frame⟩;refine alone (pZ h0) hag (op (JZ (M:=bg M O J w) hT hm2 (fun x sv hx=>Yn hm'.frame hx) (h.hout J w hm'.heap) fun u v O2 oq η' w' hd hp hH hv hk=>?_));obtain⟨hJ,ot⟩:=hm'.heap.join hH;obtain⟨fK,h1,h2⟩:=hm'.put hd hp hJ hv hk;exact j3 (by omega) h1 h2 (hag.trans ot)
   split at h
   .rename_i hg;exact go hm (XR hg) h
   .rename_i j want hg;split at h
    exact h.out.elim;rename_i s fZ;split at h
    .rename_i b hb;have qE:=YS (hm.frame s _ hb);have hy:=Vn fZ qE;cases b with
     |true=>
      have h:=h.t rfl;have hm':u7 M J ((s, .bool true)::fr) O nx a w:=hm.know hb rfl rfl qE;cases want with
      |true=>exact go hm' ((Zy hg).2 hy) h
      |false=>exact skip hm' (fun hw=>by rw[Zy hg,hy]at hw;cases hw) h
     |false=>
      have h:=h.f rfl;have hm':u7 M J ((s, .bool false)::fr) O nx a w:=hm.know hb rfl rfl qE;cases want with
      |false=>exact go hm' ((Zy hg).2 hy) h
      |true=>exact skip hm' (fun hw=>by rw[Zy hg,hy]at hw;cases hw) h
    .rename_i hb;have qE:=hm.frame s _ hb;simp only[Den,vX]at qE;obtain⟨vs,qE,rfl⟩:=qE;exact skip hm (fun hw=>by rw[Zy hg]at hw;exact VE fZ (by rw[qE];simp) hw) h
    exact h.out.elim
 | .fork i mi j mj p q,fr,O,nx,K,h,l,hl,hc,J,a,w,hm,hq,wc,hag=>by
   simp only[J0,zk,xC]at hl;obtain⟨⟨⟨⟨⟨hr,Cd⟩,KA⟩,tn⟩,hlp⟩,Ce⟩:=hl
   replace h:w6 (wK M ops.toList i mi fr O nx fun fr O nx=>wO M ops.toList p fr O nx K) (wK M ops.toList j mj fr O nx fun fr O nx=>wO M ops.toList q fr O nx K):=h
   have hi:i∈Region.ready .any ops l:=by rw[hr];simp
   have hj:j∈Region.ready .any ops l:=by rw[hr];simp
   refine⟨fun h0=>(by rw[hr]at h0;cases h0),fun x hx=>?_⟩;rw[hr]at hx;rcases zI.1 hx with rfl|hx
   exact arm hT hm hag hc Cd hi (fun h0=>by subst h0;exact JE) (fun k hk=>ZQ (ZQ (xW _ hk))) rfl (fun hk hm' hag=>XA hT hQ hs p hk hlp (hc.set hi) hm' hq hag) h.a
   .have hx:=zJ.1 hx;subst hx;exact arm hT hm hag hc KA hj (fun h0=>by subst h0;exact ZQ JE) (fun k hk=>ZQ (ZQ (xO _ hk))) tn.symm (fun hk hm' hag=>XA hT hQ hs q hk Ce (hc.set hj) hm' hq hag) h.b
 | .aQ i mi j mj k mk p q r,fr,O,nx,K,h,l,hl,hc,J,a,w,hm,hq,wc,hag=>by
   simp only[J0,zk,xC]at hl;obtain⟨⟨⟨⟨⟨⟨⟨⟨hr,Cd⟩,KA⟩,hmk⟩,tn⟩,KB⟩,hlp⟩,Ce⟩,hlr⟩:=hl
   replace h:w6 (wK M ops.toList i mi fr O nx fun fr O nx=>wO M ops.toList p fr O nx K) (w6 (wK M ops.toList j mj fr O nx fun fr O nx=>wO M ops.toList q fr O nx K) (wK M ops.toList k mk fr O nx fun fr O nx=>wO M ops.toList r fr O nx K)):=h
   have hi:i∈Region.ready .any ops l:=by rw[hr];simp
   have hj:j∈Region.ready .any ops l:=by rw[hr];simp
   have hk':k∈Region.ready .any ops l:=by rw[hr];simp
   refine⟨fun h0=>(by rw[hr]at h0;cases h0),fun x hx=>?_⟩;rw[hr]at hx;rcases zI.1 hx with rfl|hx
   exact arm hT hm hag hc Cd hi (fun h0=>by subst h0;exact JE) (fun k hk=>ZQ (ZQ (ZQ (xW _ hk)))) rfl (fun hk hm' hag=>XA hT hQ hs p hk hlp (hc.set hi) hm' hq hag) h.a
   .rcases zI.1 hx with rfl|hx
    exact arm hT hm hag hc KA hj (fun h0=>by subst h0;exact ZQ JE) (fun k hk=>ZQ (ZQ (ZQ (xO _ (xW _ hk))))) tn.symm (fun hk hm' hag=>XA hT hQ hs q hk Ce (hc.set hj) hm' hq hag) h.b.a
    .have hx:=zJ.1 hx;subst hx;exact arm hT hm hag hc hmk hk' (fun h0=>by subst h0;exact ZQ (ZQ JE)) (fun k hk=>ZQ (ZQ (ZQ (xO _ (xO _ hk))))) KB.symm (fun hk hm' hag=>XA hT hQ hs r hk hlr (hc.set hk') hm' hq hag) h.b.b
 | .join p,fr,O,nx,K,h,l,hl,hc,J,a,w,hm,hq,wc,hag=>by
   replace h:eU (fun fr=>wO M ops.toList p fr O nx K) fr:=h
   obtain⟨fr',he,h⟩:=h.out;have hm':u7 M J fr' O nx a w:=⟨hm.heap,hm.size,hm.fN,(by rw[he];exact hm.defers),hm.ro,fun t sv ht=>hm.frame t sv (by rw[<-he];exact ht)⟩;exact XA hT hQ hs p h hl hc hm' hq hag
theorem uK.of{M:Mx}(hT:ux M.P M.C.T)(hP:M.P.follows .mixedOrders=true){id:Nat}{ops:Array Oper}{fr:Fr}{O:u0}{nx:Nat}{Q:Post}(steps:uJ)(ou:Ca ops steps=true)
 (h:wO M ops.toList steps fr O nx fun fr O nx=>Q .normal fr O nx):uK M id ops fr O nx Q:=by
 simp only[Ca,zk,xC]at ou;obtain⟨⟨hs,hlen⟩,ou⟩:=ou;refine⟨fun J a w hm=>Code.wpIn_mono (Q:=fun e a w=>(∀ch,e≠ .panic ch)/\iZ M Q e a w) (fun e a w h=>h.2) (wpIn_region_any hP (Ny (S:=SS (ZG steps) {w with drawn:=w.drawn+1}) _ _ _ _ ?_))⟩;have hm':u7 M J fr O nx a {w with drawn:=w.drawn+1}:=⟨hm.heap.drawn (xH _),hm.size,hm.fN,hm.defers,hm.ro,hm.frame⟩
 have hc0:qM .any ops (Array.replicate ops.size false):=by
  refine⟨by simp,fun j o hj hl=>?_⟩;rcases yD j ops.size with h'|h'
  simp[h']at hl;simp[h']at hl
 have key:=XA (Q:=fun e a w=>(∀ch,e≠ .panic ch)/\iZ M Q e a w) hT (fun c a w hq=>hq.1 c rfl) hs steps h ou hc0 hm' (fun J fr O nx a w hm hq=>⟨(fun ch he=>by cases he),J,fr,O,nx,hm,hq⟩) (agree.refl _);rw[hlen]at key;exact key
end
section
variable {σ:Nat->Nat}{k:Nat}
theorem UP(h:∀j,j<k->σ j=j):∀{b:wG},mP k b=true->kj σ b=b
 | .uM g,_=>rfl
 | .loc i,hb=>by simp only[mP,yU]at hb;simp only[kj,h i hb]
mutual
theorem Vq(h:∀j,j<k->σ j=j):∀{v:SV},Y2 k v=true->uD σ v=v
 | .bool _,_=>rfl
 | .int _ _,_=>rfl
 | .str _,_=>rfl
 | .val _,_=>rfl
 | .any,_=>rfl
 | .nb _,_=>rfl
 | .jQ l,hb=>by simp only[Y2]at hb;simp only[uD,Xb h hb]
 | .yf b,hb=>by simp only[Y2]at hb;simp only[uD,UP h hb]
 | .mp b,hb=>by simp only[Y2]at hb;simp only[uD,UP h hb]
 | .ptr b _ _ _,hb=>by simp only[Y2]at hb;simp only[uD,UP h hb]
 | .sl b _ _ _ _,hb=>by simp only[Y2]at hb;simp only[uD,UP h hb]
 | .agg cs,hb=>by simp only[Y2]at hb;simp only[uD,Xb h hb]
 | .arr _ rs,hb=>by simp only[Y2]at hb;simp only[uD,JF h hb]
 | .uI vs,hb=>by simp only[Y2]at hb;simp only[uD,Xb h hb]
 | .gR _ v,hb=>by simp only[Y2]at hb;simp only[uD,Vq h hb]
 | .fn _ a b,hb=>by simp only[Y2,zk]at hb;simp only[uD,Xb h hb.1,Xb h hb.2]
theorem Xb(h:∀j,j<k->σ j=j):∀{vs:List SV},ZZ k vs=true->uR σ vs=vs
 | [],_=>rfl
 |c::cs,hb=>by simp only[ZZ,zk]at hb;simp only[uR,Vq h hb.1,Xb h hb.2]
theorem JF(h:∀j,j<k->σ j=j):∀{vs:List (List SV)},YC k vs=true->Xq σ vs=vs
 | [],_=>rfl
 |c::cs,hb=>by simp only[YC,zk]at hb;simp only[Xq,Xb h hb.1,JF h hb.2]
end
theorem M7(h:∀j,j<k->σ j=j):∀{fr:Fr},Wk k fr=true->jD σ fr=fr
 | [],_=>rfl
 |(t,v)::r,hb=>by
  simp only[Wk,zk]at hb;simp only[jD,Vq h hb.1,M7 h hb.2]
theorem Zb2(h:∀j,j<k->σ j=j):∀{c:DC},mQ k c=true->gW σ c=c
 | .v s,hb=>by simp only[mQ]at hb;simp only[gW,Vq h hb]
 | .uC _ rs,hb=>by simp only[mQ]at hb;simp only[gW,JF h hb]
theorem M8(h:∀j,j<k->σ j=j):∀{r:List DC},Xr k r=true->aM σ r=r
 | [],_=>rfl
 |c::cs,hb=>by simp only[Xr,zk]at hb;simp only[aM,Zb2 h hb.1,M8 h hb.2]
theorem M9(h:∀j,j<k->σ j=j):∀{r:List (List DC)},Yq k r=true->Xz σ r=r
 | [],_=>rfl
 |c::cs,hb=>by simp only[Yq,zk]at hb;simp only[Xz,M8 h hb.1,M9 h hb.2]
theorem UQ(h:∀j,j<k->σ j=j):∀{hp:Hp},Zp k hp=true->uo σ hp=hp
 | .deep _ _ _,hb=>by simp only[Zp]at hb;simp only[uo,M9 h hb]
 | .box _,hb=>by simp only[Zp]at hb;simp only[uo,Xb h hb]
 | .rows _ _,hb=>by simp only[Zp]at hb;simp only[uo,JF h hb]
 | .wI _ _,_=>rfl
 | .cI _,_=>rfl
 | .kH _ _ _,_=>rfl
 | .gJ _,_=>rfl
 | .lp _ _ fr,hb=>by simp only[Zp]at hb;simp only[uo,M7 h hb]
 | .mp _,hb=>by simp only[Zp]at hb;simp only[uo,JF h hb]
theorem Ma(h:∀j,j<k->σ j=j):∀{O:u0},Zu k O=true->qF σ O=O
 | [],_=>rfl
 |(i,hp)::r,hb=>by
  simp only[Zu,zk,yU]at hb;simp only[qF,h i hb.1,UQ h hb.2.1,Ma h hb.2.2]
end
variable {M:Mx}{fr fr':Fr}{O O':u0}{nx:Nat}
theorem ZcX{k i:Nat}(h:i<k):(List.range k).getD i 0=i:=by simp[List.getD,h]
theorem Z8t{k nx j:Nat}(h:j<k):Zk (List.range k) nx j=j:=by
 simp only[Zk,yw,z8 h,ZcX h]
def fD(O:u0):u0->Prop
 | []=>True
 |(i,h)::r=>match u6 i O with
  |some g=>g=h/\fD O r
  |none=>False
def e9(C:Cx)(O:u0):u0->Prop
 | []=>True
 |(i,h)::r=>match Yv C O (.loc i)with
  |some g=>g=h/\e9 C O r
  |none=>False
theorem fD.at{O:u0}:∀{Oc:u0},fD O Oc->∀p∈Oc,u6 p.1 O=some p.2
 | [],_,p,hp=>by cases hp
 |(i,h)::r,hs,p,hp=>by
  simp only[fD]at hs;split at hs
  .rename_i g hg;obtain⟨rfl,hs⟩:=hs;rcases zI.1 hp with rfl|hp
   exact hg;exact fD.at hs p hp
  exact hs.elim
theorem e9.at{C:Cx}{O:u0}:∀{Sc:u0},e9 C O Sc->∀p∈Sc,Yv C O (.loc p.1)=some p.2
 | [],_,p,hp=>by cases hp
 |(i,h)::r,hs,p,hp=>by
  simp only[e9]at hs;split at hs
  .rename_i g hg;obtain⟨rfl,hs⟩:=hs;rcases zI.1 hp with rfl|hp
   exact hg;exact e9.at hs p hp
  exact hs.elim
theorem Xc{k:Nat}:∀{O:u0},Zu k O=true->∀p∈O,p.1<k/\Zp k p.2=true
 | [],_,p,hp=>by cases hp
 |(i,h)::r,hb,p,hp=>by
  simp only[Zu,zk,yU]at hb;rcases zI.1 hp with rfl|hp
  exact⟨hb.1,hb.2.1⟩;exact Xc hb.2.2 p hp
theorem Xd{k:Nat}:∀{O:u0},Zu k O=true->∀j∈Zg O,j<k
 | [],_,j,hj=>by cases hj
 |(i,h)::r,hb,j,hj=>by
  simp only[Zu,zk,yU]at hb;rcases zI.1 hj with rfl|hj
  exact hb.1;exact Xd hb.2.2 j hj
theorem Mb{f:Nat->Nat}:∀{l:List Nat},(∀j∈l,f j=j)->l.map f=l
 | [],_=>rfl
 |x::l,h=>by simp only[zL,h x (zF ..),Mb fun j hj=>h j (zG _ hj)]
theorem H7:∀{S:u0} {p:Nat×Hp},p∈S->p.1∈Zg S
 | [],p,hp=>by cases hp
 |(i,h)::S,p,hp=>by
  rcases zI.1 hp with rfl|hp
  exact zF ..;exact zG _ (H7 hp)
theorem CALL.here{f:FuncId}{args:List SV}{K:SV->u0->Nat->Prop}{k:Nat}{Oc Sc:u0}{Q:SV->u0->Nat->Prop}(sp:vW M.P M.C.T f k args Oc Sc Q)
 (hk:Nat.ble k nx=true) (hb:ZZ k args=true) (eG:Zu k Oc=true) (nt:Zu k Sc=true) (hO:fD O Oc) (hS:e9 M.C O Sc)
 (hd:(Zg Sc).all (fun j=>!((Zg Oc).any (Nat.beq j)))=true)
 (hQ:∀r O' vZ,Q r O' vZ->vZ=k/\Y2 k r=true/\Zu k O'=true)
 (hK:∀r O',Q r O' k->K r (O'++Ya (Zg Oc) O) nx):CALL M f args O nx K:=by
 have hk:=zP hk;have hσ:∀j,j<k->Zk (List.range k) nx j=j:=fun j hj=>Z8t hj;have nu:(Zg Oc).map (Zk (List.range k) nx)=Zg Oc:=Mb fun j hj=>hσ j (Xd eG j hj);refine CALL.of (List.range k) sp (by simp) (fun i hi=>by have:=zY.1 hi;omega) (Xb hσ hb).symm hb ?_ ?_ ?_ ?_
 .intro p hp;obtain⟨h1,h2⟩:=Xc eG p hp;exact⟨h1,by rw[hσ _ h1,UQ hσ h2];exact hO.at p hp,h2⟩
 .intro j hj j' hj' he;rwa [hσ j (Xd eG j hj),hσ j' (Xd eG j' hj')]at he
 .intro p hp;obtain⟨h1,h2⟩:=Xc nt p hp;refine⟨h1,by rw[hσ _ h1,UQ hσ h2];exact hS.at p hp,h2,?_⟩;rw[nu,hσ _ h1];intro hm;have hj:p.1∈Zg Sc:=H7 hp;have:=zN.1 hd _ hj;simp only[Bool.not_eq_eq_eq_not,xP]at this;have h3:(Zg Oc).any (Nat.beq p.1)=true:=xG.2 ⟨p.1,hm,X8 _⟩;rw[h3]at this;cases this
 .intro r O' vZ hq;obtain⟨rfl,h1,h2⟩:=hQ r O' vZ hq;have:=hK r O' hq;rw[Vq hσ h1,Ma hσ h2,nu];simpa using this
def kq(σ:Nat->Nat)(O:u0):u0->Prop
 | []=>True
 |(i,h)::r=>match u6 (σ i) O with
  |some g=>g=uo σ h/\kq σ O r
  |none=>False
def ja(C:Cx)(σ:Nat->Nat)(O:u0):u0->Prop
 | []=>True
 |(i,h)::r=>match Yv C O (.loc (σ i))with
  |some g=>g=uo σ h/\ja C σ O r
  |none=>False
theorem kq.at{σ:Nat->Nat}{O:u0}:∀{Oc:u0},kq σ O Oc->∀p∈Oc,u6 (σ p.1) O=some (uo σ p.2)
 | [],_,p,hp=>by cases hp
 |(i,h)::r,hs,p,hp=>by
  simp only[kq]at hs;split at hs
  .rename_i g hg;obtain⟨rfl,hs⟩:=hs;rcases zI.1 hp with rfl|hp
   exact hg;exact kq.at hs p hp
  exact hs.elim
theorem ja.at{C:Cx}{σ:Nat->Nat}{O:u0}:∀{Sc:u0},ja C σ O Sc->∀p∈Sc,Yv C O (.loc (σ p.1))=some (uo σ p.2)
 | [],_,p,hp=>by cases hp
 |(i,h)::r,hs,p,hp=>by
  simp only[ja]at hs;split at hs
  .rename_i g hg;obtain⟨rfl,hs⟩:=hs;rcases zI.1 hp with rfl|hp
   exact hg;exact ja.at hs p hp
  exact hs.elim
theorem CALL.at{f:FuncId}{args uH:List SV}{K:SV->u0->Nat->Prop}{k:Nat}{Oc Sc:u0}{Q:SV->u0->Nat->Prop}(L:List Nat)(sp:vW M.P M.C.T f k uH Oc Sc Q)
 (hL:L.length=k) (eT:L.all (fun i=>Nat.blt i nx)=true) (ha:args=uR (Zk L nx) uH) (hb:ZZ k uH=true) (eG:Zu k Oc=true) (nt:Zu k Sc=true) (hO:kq (Zk L nx) O Oc) (hS:ja M.C (Zk L nx) O Sc)
 (hinj:(Zg Oc).all (fun j=>(Zg Oc).all fun j'=>!(Nat.beq (Zk L nx j) (Zk L nx j'))||Nat.beq j j')=true)
 (hd:(Zg Sc).all (fun j=>!((Zg Oc).any fun j'=>Nat.beq (Zk L nx j) (Zk L nx j')))=true)
 (hK:∀r O' vZ,Q r O' vZ->K (uD (Zk L nx) r) (qF (Zk L nx) O'++Ya ((Zg Oc).map (Zk L nx)) O) (nx+(vZ-k))):CALL M f args O nx K:=by
 refine CALL.of L sp hL (fun i hi=>by have:=zN.1 eT i hi;simpa[yU]using this) ha hb (fun p hp=>?_) (fun j hj j' hj' he=>?_) (fun p hp=>?_) hK
 .obtain⟨h1,h2⟩:=Xc eG p hp;exact⟨h1,hO.at p hp,h2⟩
 .have:=zN.1 (zN.1 hinj j hj) j' hj';simp only[he,X8,xP,xQ]at this;exact Zq this
 .obtain⟨h1,h2⟩:=Xc nt p hp;refine⟨h1,hS.at p hp,h2,fun hm=>?_⟩;obtain⟨j',hj',he⟩:=zM.1 hm;have:=zN.1 hd _ (H7 hp);simp only[Bool.not_eq_eq_eq_not,xP]at this;have h3:(Zg Oc).any (fun j'=>Nat.beq (Zk L nx p.1) (Zk L nx j'))=true:=xG.2 ⟨j',hj',by rw[he];exact X8 _⟩;rw[h3]at this;cases this
theorem qn.at{f:FuncId}{args uH:List SV}{KP K:SV->u0->Nat->Prop}{k:Nat}{Oc Sc:u0}{Q X:SV->u0->Nat->Prop}(L:List Nat)(sp:fC M.P M.C.T f k uH Oc Sc Q X)
 (hL:L.length=k) (eT:L.all (fun i=>Nat.blt i nx)=true) (ha:args=uR (Zk L nx) uH) (hb:ZZ k uH=true) (eG:Zu k Oc=true) (nt:Zu k Sc=true) (hO:kq (Zk L nx) O Oc) (hS:ja M.C (Zk L nx) O Sc)
 (hinj:(Zg Oc).all (fun j=>(Zg Oc).all fun j'=>!(Nat.beq (Zk L nx j) (Zk L nx j'))||Nat.beq j j')=true)
 (hd:(Zg Sc).all (fun j=>!((Zg Oc).any fun j'=>Nat.beq (Zk L nx j) (Zk L nx j')))=true)
 (hK:∀r O' vZ,Q r O' vZ->K (uD (Zk L nx) r) (qF (Zk L nx) O'++Ya ((Zg Oc).map (Zk L nx)) O) (nx+(vZ-k)))
 (hX:∀r O' vZ,X r O' vZ->KP (uD (Zk L nx) r) (qF (Zk L nx) O'++Ya ((Zg Oc).map (Zk L nx)) O) (nx+(vZ-k))):qn M f args O nx KP K:=by
 refine qn.of L sp hL (fun i hi=>by have:=zN.1 eT i hi;simpa[yU]using this) ha hb (fun p hp=>?_) (fun j hj j' hj' he=>?_) (fun p hp=>?_) hK hX
 .obtain⟨h1,h2⟩:=Xc eG p hp;exact⟨h1,hO.at p hp,h2⟩
 .have:=zN.1 (zN.1 hinj j hj) j' hj';simp only[he,X8,xP,xQ]at this;exact Zq this
 .obtain⟨h1,h2⟩:=Xc nt p hp;refine⟨h1,hS.at p hp,h2,fun hm=>?_⟩;obtain⟨j',hj',he⟩:=zM.1 hm;have:=zN.1 hd _ (H7 hp);simp only[Bool.not_eq_eq_eq_not,xP]at this;have h3:(Zg Oc).any (fun j'=>Nat.beq (Zk L nx p.1) (Zk L nx j'))=true:=xG.2 ⟨j',hj',by rw[he];exact X8 _⟩;rw[h3]at this;cases this
theorem u9.at{k:Nat}{r:SV}{Q:SV->u0->Nat->Prop}(hk:M.η0.length=k)(Z:List Nat)(rc:SV)(Oc:u0)(hτ:Z.all (fun i=>Nat.blt i nx)=true)(hr:r=uD (YE k Z) rc)(hb:Y2 (k+Z.length) rc=true)(eG:Zu (k+Z.length) Oc=true)
 (hO:kq (YE k Z) O Oc) (hinj:(Zg Oc).all (fun j=>(Zg Oc).all fun j'=>!(Nat.beq (YE k Z j) (YE k Z j'))||Nat.beq j j')=true) (hQ:Q rc Oc (k+Z.length)):u9 M O nx r Q:=by
 refine u9.keep hk Z (rc:=rc) (Oc:=Oc) (fun i hi=>by have:=zN.1 hτ i hi;simpa[yU]using this) hr hb (fun p hp=>?_) (fun j hj j' hj' he=>?_) hQ
 .obtain⟨h1,h2⟩:=Xc eG p hp;exact⟨h1,hO.at p hp,h2⟩
 .have:=zN.1 (zN.1 hinj j hj) j' hj';simp only[he,X8,xP,xQ]at this;exact Zq this
theorem CALL.weak{f:FuncId}{args:List SV}{K:SV->u0->Nat->Prop}{O1:u0}{n1:Nat}(h:∀Y w,vU M Y w O nx->∃η',Y<+:η'/\vU M η' w O1 n1)(hc:CALL M f args O1 n1 K):CALL M f args O nx K:=by
 refine⟨fun Y w vs H hd=>?_⟩;obtain⟨η1,hp,H1⟩:=h Y w H;refine(hc.out η1 w vs H1 (vX.mono hp hd)).mono ?_;rintro v w' ⟨r,O',vZ,η',h1,h2⟩;exact⟨r,O',vZ,η',hp.trans h1,h2⟩
def nv(nx es:Nat):Nat->List SV->Option (List SV)
 |0, .val (.slice none 0 0)::r=>some (.sl (.loc nx) 0 es 0 none::r)
 |j+1,c::r=>match nv nx es j r with|some r=>some (c::r)|none=>none
 |_,_=>none
theorem Md{nx es:Nat}:∀{j:Nat} {row row':List SV},nv nx es j row=some row'->∀(i:Nat) (sv:SV),row'[i]?=some sv->row[i]?=some sv\/(row[i]?=some (SV.val (.slice none 0 0))/\sv=SV.sl (.loc nx) 0 es 0 none)
 |0,[],_,h=>by simp[nv]at h
 |0,c::r,row',h=>by
  unfold nv at h;split at h
  .rename_i e1 e2;injection e2 with e2 e3;subst e2 e3;injection h with h;subst h;intro i sv hi;cases i with
   |zero=>simp at hi;subst hi;exact .inr ⟨rfl,rfl⟩
   |succ i=>exact .inl (by simpa using hi)
  simp_all
  cases h
 |j+1,[],_,h=>by simp[nv]at h
 |j+1,c::r,row',h=>by
  unfold nv at h;split at h
  .rename_i r1 hr;injection h with h;subst h;intro i sv hi;cases i with
   |zero=>left;simpa using hi
   |succ i=>
    have:=Md hr i sv (by simpa using hi);simpa using this
  cases h
theorem vU.w9{Y:Env}{w:World}(H:vU M Y w O nx){i j es:Nat}{row row':List SV}(hi:u6 i O=some (.box row))(hr:nv nx es j row=some row'):
 ∃η',Y<+:η'/\vU M η' w ((nx, .rows es [])::uO i (.box row') O) (nx+1):=by
 have hpre:Y<+:Y++ [none]:=zD _ _;have hnew:(Y++ [none])[nx]?=some none:=by rw[zz (by rw[H.len];omega),H.len];simp
 have hold:∀{i h},u6 i O=some h->(Y++ [none])[i]?=Y[i]?:=fun{i h} hi=>by
  rw[zu (by rw[H.len];exact H.lt hi)]
 have hin:∀{a h},u6 a (uO i (.box row') O)=some h->∃h0,u6 a O=some h0/\vV (Y++ [none]) w true (.loc a) h/\∀n,u5 (Y++ [none]) w (.loc a) h n->u5 Y w (.loc a) h0 n:=by
  intro a h ha;rw[Y5 _ _ _ _ (by rw[hi];rfl)]at ha;split at ha
  .rename_i e;subst e;injection ha with ha;subst ha;refine⟨_,hi,?_,fun n f=>H.stands hpre hi (fun _ _=>rfl) (show u5 (Y++ [none]) w (.loc _) (.box row) n from f)⟩;have:=(H.own.1 _ _ hi).1.mono hpre;simp only[vV]at this⊢;obtain⟨e,arr,T,fz,h1,h2,h3,h4⟩:=this;refine⟨e,arr,T,fz,h1,h2,h3,fun c sv hc=>?_⟩;rcases Md hr c sv hc with dU|⟨dU,rfl⟩
   exact h4 c sv dU
   .obtain⟨v,h5,h6,h7⟩:=h4 c _ dU;refine⟨v,h5,h6,?_⟩;simp only[Den]at h7⊢;exact .inl ⟨hnew,h7.1,trivial⟩
  exact⟨h,ha,(H.own.1 _ _ ha).1.mono hpre,fun n f=>H.stands hpre ha (fun _ _=>rfl) f⟩
 refine⟨Y++ [none],hpre,H.pre.trans hpre,by simp[H.len],⟨fun a h ha=>?_,fun a b h h' n ha hb hab f f'=>?_⟩,H.fr,H.wH⟩
 .rw[Z6]at ha;split at ha
  .rename_i e;subst e;injection ha with ha;subst ha
   exact⟨.inl ⟨hnew,rfl⟩,fun n f=>(u5.none (b:= .loc _) hnew f).elim⟩
  .obtain⟨h0,h1,h2,h3⟩:=hin ha;exact⟨h2,fun n f=>(H.own.1 a h0 h1).2 n (h3 n f)⟩
 .rw[Z6]at ha hb;split at ha
  rename_i e1;subst e1;exact(u5.none (b:= .loc _) hnew f).elim
  .split at hb
   rename_i e2;subst e2;exact(u5.none (b:= .loc _) hnew f').elim
   .obtain⟨h0,h1,_,h3⟩:=hin ha;obtain⟨h0',jo,_,FM⟩:=hin hb;exact H.own.2 a b h0 h0' n h1 jo hab (h3 n f) (FM n f')
theorem CALL.w9{f:FuncId}{args:List SV}{K:SV->u0->Nat->Prop}(i j es:Nat){row row':List SV}(hi:u6 i O=some (.box row))(hr:nv nx es j row=some row')(hc:CALL M f args ((nx, .rows es [])::uO i (.box row') O) (nx+1) K):CALL M f args O nx K:=
 CALL.weak (fun Y w H=>H.w9 hi hr) hc
theorem u9.here{k:Nat}{r rc:SV}{Oc:u0}{Q:SV->u0->Nat->Prop}(hk:M.η0.length=k)(hr:r=rc)(hb:Y2 k rc=true)(eG:Zu k Oc=true)(hO:fD O Oc)(hQ:Q rc Oc k):u9 M O nx r Q:=by
 have hσ:∀j,j<k->YE k [] j=j:=fun j hj=>by simp[YE,hj]
 refine u9.keep hk [] (rc:=rc) (Oc:=Oc) (fun i hi=>by cases hi) (by rw[Vq hσ hb];exact hr) hb ?_ ?_ hQ
 .intro p hp;obtain⟨h1,h2⟩:=Xc eG p hp;exact⟨h1,by rw[hσ _ h1,UQ hσ h2];exact hO.at p hp,h2⟩
 .intro j hj j' hj' he;rwa [hσ j (Xd eG j hj),hσ j' (Xd eG j' hj')]at he
def bp(k:Nat):List SV->List SV->Prop
 |_,[]=>True
 | [],_::_=>False
 |c::cs,c'::cs'=>(c'= .any\/(c'=c/\Y2 k c=true))/\bp k cs cs'
theorem bp.get{k:Nat}:∀{row row':List SV},bp k row row'->∀(j:Nat) (sv:SV),row'[j]?=some sv->∃c,row[j]?=some c/\(sv= .any\/(sv=c/\Y2 k c=true))
 |_,[],_,j,sv,h=>by simp at h
 | [],_::_,h,_,_,_=>h.elim
 |c::cs,c'::cs',h,0,sv,hj=>by simp at hj;subst hj;exact⟨c,rfl,h.1⟩
 |c::cs,c'::cs',h,j+1,sv,hj=>by simp at hj;obtain⟨d,h1,h2⟩:=bp.get h.2 j sv hj;exact⟨d,by simpa using h1,h2⟩
theorem u9.loose{k:Nat}{r:SV}{Q:SV->u0->Nat->Prop}(hk:M.η0.length=k)(i:Nat)(row':List SV){row:List SV}(hr:plain r=true)(hO:u6 i O=some (.box row))(hi:Nat.blt i k=true)(hl:bp k row row')(hQ:Q r [(i, .box row')] k):u9 M O nx r Q:=by
 refine⟨fun Y w v H hd=>⟨r,[(i, .box row')],k,M.η0,hQ,zx,?_,?_⟩⟩
 .have hi:i<k:=by simpa[yU]using hi
  have kJ:∀j,j<k->Y[j]?=M.η0[j]?:=fun j hj=>by
   obtain⟨t,ht⟩:=H.pre;rw[<-ht,zu (by omega)]
  have hb:fH Y M.η0 id k:=fun j x hj hx=>by rw[<-kJ j hj];exact hx
  have uc:vV M.η0 w true (.loc i) (.box row'):=by
   have:=(H.own.1 i _ hO).1;simp only[vV]at this⊢;obtain⟨e,arr,T,fz,h1,h2,h3,h4⟩:=this;refine⟨e,arr,T,fz,by simp only[Env.get]at h1⊢;rw[<-kJ i hi];exact h1,h2,h3,fun j sv hj=>?_⟩;obtain⟨c,h5,h6⟩:=hl.get j sv hj;obtain⟨u,h7,h8,h9⟩:=h4 j c h5;refine⟨u,h7,h8,?_⟩;rcases h6 with rfl|⟨rfl,h6⟩
   simp only[Den];exact Den.uj hb h6 (by rw[tr (σ:=id) (fun _=>rfl)];exact h9)
  refine⟨zx,hk,⟨fun j h hj=>?_,fun a b h h' n ha hb' hab=>?_⟩,H.fr,H.wH⟩
  .rw[Z6]at hj;split at hj
   .rename_i e;subst e;injection hj with hj;subst hj
    exact⟨uc,fun n f=>(H.own.1 _ _ hO).2 n ((show u5 M.η0 w (.loc _) (.box row) n from f).mono H.pre)⟩
   simp[u6]at hj
  .rw[Z6]at ha hb';split at ha
   .split at hb'
    rename_i e1 e2;exact(hab (e1.trans e2.symm)).elim;simp[u6]at hb'
   simp[u6]at ha
 .have hb:fH Y M.η0 (fun i=>i) 0:=fun i x hi=>by omega
  exact Den.uj hb (Xs 0 hr) (by rw[Xh _ hr];exact hd)
def bZ:Nat->List SV
 |0=>[]
 |n+1=> .any::bZ n
theorem Me{Y η':Env}:∀{cs:List SV} {vs:List Value},vX Y cs vs->vX η' (bZ cs.length) vs
 | [],vs,h=>by simpa[vX,bZ]using h
 |c::cs,vs,h=>by
  simp only[vX,bZ,List.length_cons]at h⊢;obtain⟨u,us,rfl,_,h⟩:=h;exact⟨u,us,rfl,by simp only[Den],Me h⟩
theorem u9.ox(n:Nat){k:Nat}{r:SV}{cs vs:List SV}{Q:SV->u0->Nat->Prop}(hk:M.η0.length=k)(hr:r= .uI (.agg cs::vs))(hn:Wa cs n=true)(hv:YN vs=true)(hQ:Q (.uI (.agg (bZ n)::vs)) [] k):u9 M O nx r Q:=by
 have hn:cs.length=n:=by
  clear hr hQ
  induction n generalizing cs with
  |zero=>cases cs with
   |nil=>rfl
   |cons a l=>simp[Wa]at hn
  |succ n ih=>cases cs with
   |nil=>simp[Wa]at hn
   |cons a l=>simp only[Wa]at hn;simp[ih hn]
 refine⟨fun Y w v H hd=>⟨.uI (.agg (bZ n)::vs),[],k,M.η0,hQ,zx,⟨zx,hk,⟨fun i h hi=>by simp[u6]at hi,fun i j h h' n hi=>by simp[u6]at hi⟩,H.fr,H.wH⟩,?_⟩⟩;rw[hr]at hd;simp only[Den,vX]at hd⊢;obtain⟨us,h1,u,us',h2,⟨xs,h5,h6,h7⟩,h4⟩:=hd;refine⟨us,h1,u,us',h2,⟨xs,h5,by rw[<-hn];exact Me h6,h7⟩,?_⟩;have hb:fH Y M.η0 (fun i=>i) 0:=fun i x hi=>by omega
 exact vX.uj hb (ZP 0 hv) (by rw[Yg _ hv];exact h4)
section
variable {m:Nat}{σ:Nat->Nat}{sv:SV}
theorem Mf(hs:Y2 m sv=true):∀{row:List DC} {c:Nat},Yi row=true->Xr m (row.set c (.v sv))=true
 | [],_,_=>rfl
 |d::row,0,h=>by simp only[Yi,zk]at h;simp only[List.set_cons_zero,Xr,mQ,hs,Jr m h.2,zS]
 |d::row,c+1,h=>by simp only[Yi,zk]at h;simp only[List.set_cons_succ,Xr,N3 m h.1,Mf hs h.2,zS]
theorem Mg(hs:Y2 m sv=true):∀{rs:List (List DC)} {r c:Nat},ZD rs=true->Yq m (uw rs r c (.v sv))=true
 | [],r,_,_=>by cases r<;>rfl
 |row::rs,0,c,h=>by simp only[ZD,zk]at h;simp only[uw,List.modify_zero_cons,Yq,Mf hs h.1,J6 m h.2,zS]
 |row::rs,r+1,c,h=>by simp only[ZD,zk]at h;simp only[uw,List.modify_succ_cons,Yq,Jr m h.1,xF];exact Mg hs h.2
theorem Mh:∀{row:List DC} {c:Nat},Yi row=true->aM σ (row.set c (.v sv))=row.set c (.v (uD σ sv))
 | [],_,_=>rfl
 |d::row,0,h=>by simp only[Yi,zk]at h;simp only[List.set_cons_zero,aM,gW,VF σ h.2]
 |d::row,c+1,h=>by simp only[Yi,zk]at h;simp only[List.set_cons_succ,aM,N1 σ h.1,Mh h.2]
theorem Mi:∀{rs:List (List DC)} {r c:Nat},ZD rs=true->Xz σ (uw rs r c (.v sv))=uw rs r c (.v (uD σ sv))
 | [],r,_,_=>by cases r<;>rfl
 |row::rs,0,c,h=>by simp only[ZD,zk]at h;simp only[uw,List.modify_zero_cons,Xz,Mh h.1,V0 σ h.2]
 |row::rs,r+1,c,h=>by simp only[ZD,zk]at h;simp only[uw,List.modify_succ_cons,Xz,VF σ h.1];exact zf (row:: ·) (Mi h.2)
theorem Zb3{mp:Bool}{es r c:Nat}{rs:List (List DC)}(h:ZD rs=true)(hs:Y2 m sv=true):Zp m (.deep mp es (uw rs r c (.v sv)))=true:=Mg hs h
theorem ZfI{mp:Bool}{es r c:Nat}{rs:List (List DC)}(h:ZD rs=true):Hp.deep mp es (uw rs r c (.v (uD σ sv)))=uo σ (.deep mp es (uw rs r c (.v sv))):=by simp only[uo,Mi h]
end
class bu{V:Type}(f:V->List SV):Prop where
 h:∀x,YN (f x)=true
class Pl(rs:List (List SV)):Prop where
 h:Zj rs=true
class bQ(rs:List (List DC)):Prop where
 h:ZD rs=true
instance {V:Type}{f:V->List SV}[p:bu f]{l:List V}:Pl (l.map f):=⟨ZN f p.h l⟩
instance :bu bytesRow:=⟨fun _=>rfl⟩
theorem Zo{m i:Nat}{h:Hp}{O:u0}(h1:Nat.blt i m=true)(h2:Zp m h=true)(h3:Zu m O=true):Zu m ((i,h)::O)=true:=by simp only[Zu,h1,h2,h3,zS]
theorem Yw{k:IntKind}{a b:Int}(h:a=b):Hp.box [.int k a]=Hp.box [.int k b]:=by rw[h]
theorem Xi{b:wG}{r es n n':Nat}{lim:Option Nat}(h:n=n'):Hp.box [.sl b r es n lim]=Hp.box [.sl b r es n' lim]:=by rw[h]
section
variable {m es:Nat}{σ Z:Nat->Nat}{rs:List (List SV)}{ds:List (List DC)}{mp:Bool}
theorem mW[p:Pl rs]:Zp m (.rows es rs)=true:=Jc m (h:= .rows es rs) p.h
theorem mX[p:Pl rs]:Zp m (.mp rs)=true:=Jc m (h:= .mp rs) p.h
theorem VM[p:bQ ds]:Zp m (.deep mp es ds)=true:=Jc m (h:= .deep mp es ds) p.h
theorem VN{r c:Nat}{sv:SV}[p:bQ ds](h:Y2 m sv=true):Zp m (.deep mp es (uw ds r c (.v sv)))=true:=Zb3 p.h h
theorem tA{r c:Nat}{sv mN:SV}[p:bQ ds](h:mN=uD σ sv):Hp.deep mp es (uw ds r c (.v mN))=uo σ (.deep mp es (uw ds r c (.v sv))):=h▸ZfI p.h
theorem gb[p:Pl rs]:uo σ (.rows es rs)= .rows es rs:=Ze σ (h:= .rows es rs) p.h
theorem eo[p:Pl rs]:uo σ (.mp rs)= .mp rs:=Ze σ (h:= .mp rs) p.h
theorem kO[p:bQ ds]:uo σ (.deep mp es ds)= .deep mp es ds:=Ze σ (h:= .deep mp es ds) p.h
theorem tB[p:Pl rs]:uo σ (.rows es rs)=uo Z (.rows es rs):=gb.trans gb.symm
theorem tC[p:Pl rs]:uo σ (.mp rs)=uo Z (.mp rs):=eo.trans eo.symm
theorem tD[p:bQ ds]:uo σ (.deep mp es ds)=uo Z (.deep mp es ds):=kO.trans kO.symm
end
section
variable {M:Mx}{fr fr':Fr}{O O':u0}{nx:Nat}
theorem CALL.aA{f:FuncId}{args uH:List SV}{K:SV->u0->Nat->Prop}{k:Nat}{Oc Sc:u0}{Q:SV->u0->Nat->Prop}(L:List Nat)(sp:vW M.P M.C.T f k uH Oc Sc Q)
 (hK:∀r O' vZ,Q r O' vZ->K (uD (Zk L nx) r) (qF (Zk L nx) O'++Ya ((Zg Oc).map (Zk L nx)) O) (nx+(vZ-k)))
 (hL:L.length=k:=by exact rfl) (eT:L.all (fun i=>Nat.blt i nx)=true:=by exact rfl) (ha:args=uR (Zk L nx) uH:=by exact rfl) (hb:ZZ k uH=true:=by exact rfl)
 (eG:Zu k Oc=true:=by(repeat'(first|(refine Zo rfl ?_ ?_)|exact mW|exact mX|exact VM|exact VN rfl|rfl))) (nt:Zu k Sc=true:=by(repeat'(first|(refine Zo rfl ?_ ?_)|exact mW|exact mX|exact VM|exact VN rfl|rfl))) (hO:kq (Zk L nx) O Oc:=by(repeat'(first|exact trivial|(with_reducible rfl)|exact gb.symm|exact tB|exact eo.symm|exact tC|exact kO.symm|exact tD|exact tA rfl|(exact Xg Pl.h (by simp[J9,zo]<;>rfl))|exact rfl|((conv=>whnf);refine⟨?_,?_⟩)))) (hS:ja M.C (Zk L nx) O Sc:=by(repeat'(first|exact trivial|(with_reducible rfl)|exact gb.symm|exact tB|exact eo.symm|exact tC|exact kO.symm|exact tD|exact tA rfl|(exact Xg Pl.h (by simp[J9,zo]<;>rfl))|exact rfl|((conv=>whnf);refine⟨?_,?_⟩))))
 (hinj:(Zg Oc).all (fun j=>(Zg Oc).all fun j'=>!(Nat.beq (Zk L nx j) (Zk L nx j'))||Nat.beq j j')=true:=by exact rfl)
 (hd:(Zg Sc).all (fun j=>!((Zg Oc).any fun j'=>Nat.beq (Zk L nx j) (Zk L nx j')))=true:=by exact rfl):CALL M f args O nx K:=
 CALL.at L sp hL eT ha hb eG nt hO hS hinj hd hK
theorem qn.aA{f:FuncId}{args uH:List SV}{KP K:SV->u0->Nat->Prop}{k:Nat}{Oc Sc:u0}{Q X:SV->u0->Nat->Prop}(L:List Nat)(sp:fC M.P M.C.T f k uH Oc Sc Q X)
 (hK:∀r O' vZ,Q r O' vZ->K (uD (Zk L nx) r) (qF (Zk L nx) O'++Ya ((Zg Oc).map (Zk L nx)) O) (nx+(vZ-k)))
 (hX:∀r O' vZ,X r O' vZ->KP (uD (Zk L nx) r) (qF (Zk L nx) O'++Ya ((Zg Oc).map (Zk L nx)) O) (nx+(vZ-k)))
 (hL:L.length=k:=by exact rfl) (eT:L.all (fun i=>Nat.blt i nx)=true:=by exact rfl) (ha:args=uR (Zk L nx) uH:=by exact rfl) (hb:ZZ k uH=true:=by exact rfl)
 (eG:Zu k Oc=true:=by(repeat'(first|(refine Zo rfl ?_ ?_)|exact mW|exact mX|exact VM|exact VN rfl|rfl))) (nt:Zu k Sc=true:=by(repeat'(first|(refine Zo rfl ?_ ?_)|exact mW|exact mX|exact VM|exact VN rfl|rfl))) (hO:kq (Zk L nx) O Oc:=by(repeat'(first|exact trivial|(with_reducible rfl)|exact gb.symm|exact tB|exact eo.symm|exact tC|exact kO.symm|exact tD|exact tA rfl|(exact Xg Pl.h (by simp[J9,zo]<;>rfl))|exact rfl|((conv=>whnf);refine⟨?_,?_⟩)))) (hS:ja M.C (Zk L nx) O Sc:=by(repeat'(first|exact trivial|(with_reducible rfl)|exact gb.symm|exact tB|exact eo.symm|exact tC|exact kO.symm|exact tD|exact tA rfl|(exact Xg Pl.h (by simp[J9,zo]<;>rfl))|exact rfl|((conv=>whnf);refine⟨?_,?_⟩))))
 (hinj:(Zg Oc).all (fun j=>(Zg Oc).all fun j'=>!(Nat.beq (Zk L nx j) (Zk L nx j'))||Nat.beq j j')=true:=by exact rfl)
 (hd:(Zg Sc).all (fun j=>!((Zg Oc).any fun j'=>Nat.beq (Zk L nx j) (Zk L nx j')))=true:=by exact rfl):qn M f args O nx KP K:=
 qn.at L sp hL eT ha hb eG nt hO hS hinj hd hK hX
theorem u9.aA{k:Nat}{r:SV}{Q:SV->u0->Nat->Prop}(hk:M.η0.length=k)(Z:List Nat)(rc:SV)(Oc:u0)(hQ:Q rc Oc (k+Z.length))(hτ:Z.all (fun i=>Nat.blt i nx)=true:=by exact rfl)(hr:r=uD (YE k Z) rc:=by exact rfl)(hb:Y2 (k+Z.length) rc=true:=by exact rfl)(eG:Zu (k+Z.length) Oc=true:=by(repeat'(first|(refine Zo rfl ?_ ?_)|exact mW|exact mX|exact VM|exact VN rfl|rfl)))
 (hO:kq (YE k Z) O Oc:=by(repeat'(first|exact trivial|(with_reducible rfl)|exact gb.symm|exact tB|exact eo.symm|exact tC|exact kO.symm|exact tD|exact tA rfl|(exact Xg Pl.h (by simp[J9,zo]<;>rfl))|exact rfl|((conv=>whnf);refine⟨?_,?_⟩)))) (hinj:(Zg Oc).all (fun j=>(Zg Oc).all fun j'=>!(Nat.beq (YE k Z j) (YE k Z j'))||Nat.beq j j')=true:=by exact rfl):u9 M O nx r Q:=
 u9.at hk Z rc Oc hτ hr hb eG hO hinj hQ
theorem CALL.hA{f:FuncId}{args:List SV}{K:SV->u0->Nat->Prop}{k:Nat}{Oc Sc:u0}{Q:SV->u0->Nat->Prop}(sp:vW M.P M.C.T f k args Oc Sc Q)
 (hQ:∀r O' vZ,Q r O' vZ->vZ=k/\Y2 k r=true/\Zu k O'=true) (hK:∀r O',Q r O' k->K r (O'++Ya (Zg Oc) O) nx)
 (hk:Nat.ble k nx=true:=by exact rfl) (hb:ZZ k args=true:=by exact rfl) (eG:Zu k Oc=true:=by(repeat'(first|(refine Zo rfl ?_ ?_)|exact mW|exact mX|exact VM|exact VN rfl|rfl))) (nt:Zu k Sc=true:=by(repeat'(first|(refine Zo rfl ?_ ?_)|exact mW|exact mX|exact VM|exact VN rfl|rfl))) (hO:fD O Oc:=by(repeat'(first|exact trivial|exact rfl|((conv=>whnf);refine⟨?_,?_⟩)))) (hS:e9 M.C O Sc:=by(repeat'(first|exact trivial|exact rfl|((conv=>whnf);refine⟨?_,?_⟩))))
 (hd:(Zg Sc).all (fun j=>!((Zg Oc).any (Nat.beq j)))=true:=by exact rfl):CALL M f args O nx K:=CALL.here sp hk hb eG nt hO hS hd hQ hK
theorem vY.cA{k m:Nat}(hk:M.η0.length=k)(hkm:Nat.ble k m=true:=by exact rfl)(hmn:Nat.ble m nx=true:=by exact rfl)(tu:VL m fr'=true:=by exact rfl)(tv:Zu m O'=true:=by(repeat'(first|(refine Zo rfl ?_ ?_)|exact mW|exact mX|exact VM|exact VN rfl|rfl)))
 (hf:n4 fr fr':=by(repeat'(first|(with_reducible rfl)|exact trivial|(exact YZ rfl (by first|omega|(simp(disch:=omega) only[uP,Z4,Zb]<;>omega)|(simp;done)|(simp<;>omega)))|(exact zf (SV.int _) (by first|omega|(simp(disch:=omega) only[uP,Z4,Zb]<;>omega)|(simp;done)|(simp<;>omega)))|(exact Yw (by first|omega|(simp(disch:=omega) only[uP,Z4,Zb]<;>omega)|(simp;done)|(simp<;>omega)))|(exact Xi (by first|omega|(simp(disch:=omega) only[uP,Z4,Zb]<;>omega)|(simp;done)|(simp<;>omega)))|exact gb|exact eo|exact kO|(with_reducible assumption)|(exact zf (Hp.rows _) (by simp[zo]<;>rfl))|((conv=>whnf);refine⟨?_,?_⟩)|(simp;done)|rfl))) (hO:KE O O':=by(repeat'(first|(with_reducible rfl)|exact trivial|(exact YZ rfl (by first|omega|(simp(disch:=omega) only[uP,Z4,Zb]<;>omega)|(simp;done)|(simp<;>omega)))|(exact zf (SV.int _) (by first|omega|(simp(disch:=omega) only[uP,Z4,Zb]<;>omega)|(simp;done)|(simp<;>omega)))|(exact Yw (by first|omega|(simp(disch:=omega) only[uP,Z4,Zb]<;>omega)|(simp;done)|(simp<;>omega)))|(exact Xi (by first|omega|(simp(disch:=omega) only[uP,Z4,Zb]<;>omega)|(simp;done)|(simp<;>omega)))|exact gb|exact eo|exact kO|(with_reducible assumption)|(exact zf (Hp.rows _) (by simp[zo]<;>rfl))|((conv=>whnf);refine⟨?_,?_⟩)|(simp;done)|rfl))) (hd:rz fr fr'=true:=by exact rfl) (hro:rA M.C.ro id m=true:=by exact rfl):vY M fr O nx fr' O' m:=vY.uA hk hkm hmn tu tv hf hO hd hro
theorem vY.kA{k:Nat}(hk:M.η0.length=k)(Z:List Nat)(hτ:Z.all (fun i=>Nat.blt i nx)=true:=by exact rfl)
 (hn:(Zg O').all (fun j=>(Zg O').all fun j'=>!(Nat.beq (YE k Z j) (YE k Z j'))||Nat.beq j j')=true:=by exact rfl)
 (tu:VL (k+Z.length) fr'=true:=by exact rfl) (tv:Zu (k+Z.length) O'=true:=by(repeat'(first|(refine Zo rfl ?_ ?_)|exact mW|exact mX|exact VM|exact VN rfl|rfl))) (hf:nr (YE k Z) fr fr':=by(repeat'(first|(with_reducible rfl)|exact trivial|exact gb.symm|exact tB|exact eo.symm|exact tC|exact kO.symm|exact tD|exact tA rfl|(exact YZ rfl (by first|omega|(simp(disch:=omega) only[uP,Z4,Zb]<;>omega)|(simp;done)|(simp<;>omega)))|(exact zf (SV.int _) (by first|omega|(simp(disch:=omega) only[uP,Z4,Zb]<;>omega)|(simp;done)|(simp<;>omega)))|(exact Yw (by first|omega|(simp(disch:=omega) only[uP,Z4,Zb]<;>omega)|(simp;done)|(simp<;>omega)))|(exact Xi (by first|omega|(simp(disch:=omega) only[uP,Z4,Zb]<;>omega)|(simp;done)|(simp<;>omega)))|(with_reducible assumption)|(exact Xg Pl.h (by simp[J9,zo]<;>rfl))|((conv=>whnf);refine⟨?_,?_⟩)|(simp only[uD,kj];done)|rfl))) (hO:KL (YE k Z) O O':=by(repeat'(first|(with_reducible rfl)|exact trivial|exact gb.symm|exact tB|exact eo.symm|exact tC|exact kO.symm|exact tD|exact tA rfl|(exact YZ rfl (by first|omega|(simp(disch:=omega) only[uP,Z4,Zb]<;>omega)|(simp;done)|(simp<;>omega)))|(exact zf (SV.int _) (by first|omega|(simp(disch:=omega) only[uP,Z4,Zb]<;>omega)|(simp;done)|(simp<;>omega)))|(exact Yw (by first|omega|(simp(disch:=omega) only[uP,Z4,Zb]<;>omega)|(simp;done)|(simp<;>omega)))|(exact Xi (by first|omega|(simp(disch:=omega) only[uP,Z4,Zb]<;>omega)|(simp;done)|(simp<;>omega)))|(with_reducible assumption)|(exact Xg Pl.h (by simp[J9,zo]<;>rfl))|((conv=>whnf);refine⟨?_,?_⟩)|(simp only[uD,kj];done)|rfl))) (hd:rz fr fr'=true:=by exact rfl) (hro:rA M.C.ro (YE k Z) (k+Z.length)=true:=by exact rfl):vY M fr O nx fr' O' (k+Z.length):=
 vY.jI hk Z hτ hn tu tv hf hO hd hro
end
theorem AU{P Q:Prop}(k:Q)(h:Q->P:=by first|(with_reducible exact IF.tt)|(with_reducible exact IF.ff)|(with_reducible exact GET.at rfl)|(with_reducible exact o4.at rfl)|((with_reducible refine fun k=>ud.mk ?_ k);first|with_reducible rfl|omega|(simp(disch:=omega) only[uP,Z4,Zb]<;>omega)|(intro h;(try simp(disch:=omega) only[dD,KF,uP,Z4,Zb,simprocAttr]at h);(first|omega|(simp(disch:=omega) only[uP,Z4,Zb]<;>omega)))|(exact Ye 256 rfl rfl (by simp) (by simp) (by omega))|(exact⟨by omega,KG (by omega)⟩)|(exact⟨by omega,by omega,KG (by omega)⟩)|(simp<;>omega))):P:=h k
theorem IW{J:Type}{b:Bool}{A B:J->Prop}{j:J}{p q:Prop}(x:p->A j)(y:q->B j)
 (hp:b=true->p:=by(intro h;first|(simp(disch:=omega) only[dD,KF,uP,Z4,Zb,simprocAttr]at h;exact h)|(exact(show(0:Nat)=1 by simp(disch:=omega) only[dD,KF,uP,Z4,Zb,simprocAttr]at h))|exact h))
 (hq:b=false->q:=by(intro h;first|(simp(disch:=omega) only[dD,KF,uP,Z4,Zb,simprocAttr]at h;exact h)|(exact(show(0:Nat)=1 by simp(disch:=omega) only[dD,KF,uP,Z4,Zb,simprocAttr]at h))|exact h)):IF b A B j:=⟨fun h=>x (hp h),fun h=>y (hq h)⟩
theorem Zid{b:wG}{r es len:Nat}{lim:Option Nat}(h:0<len):b9 (.sl b r es len lim):=by
 intro Y u u' h1 h2;simp only[Den]at h1 h2;rcases h1 with⟨_,_,h0⟩|⟨e,o,g1,rfl,g3,g4,g5⟩
 omega;rcases h2 with⟨_,_,h0⟩|⟨e',o',k1,rfl,k3,k4,k5⟩
 omega;rw[g1]at k1;injection k1 with k1;injection k1 with k1;subst k1;rw[g5 (.inl (by omega)),k5 (.inl (by omega))]
theorem AD{P Q:Prop}(k:Q)(h:Q->P:=by first|exact fun k=>ud.mk (b9.of rfl) k|exact fun k=>ud.mk (Zid (by omega)) k):P:=h k
end Go.Sx
namespace Go.Our
open Go.Sx
structure jS{K:Type}(c:K->K->Int):Prop where
 cN:∀a b,c a b= -1\/c a b=0\/c a b=1
 anti:∀a b,c b a= -c a b
 zero:∀a b,c a b=0<->a=b
 trans:∀a b d,c a b<=0->c b d<=0->c a d<=0
def wP(a b:Int):Int:=if a<b then-1 else if a>b then 1 else 0
theorem eV:jS wP where
 cN a b:=by unfold wP;(repeat' split)<;>omega
 anti a b:=by unfold wP;(repeat' split)<;>omega
 zero a b:=by unfold wP;(repeat' split)<;>omega
 trans a b d:=by unfold wP;(repeat' split)<;>omega
open Lib (compareBytes)
theorem Mj:∀a b,compareBytes a b= -1\/compareBytes a b=0\/compareBytes a b=1
 | [],[]=>by simp[compareBytes]
 | [],_::_=>by simp[compareBytes]
 |_::_,[]=>by simp[compareBytes]
 |a::mY,b::bs=>by
  unfold compareBytes;split
  simp
  .split
   simp;exact Mj mY bs
theorem Mk:∀a b,compareBytes b a= -compareBytes a b
 | [],[]=>by simp[compareBytes]
 | [],_::_=>by simp[compareBytes]
 |_::_,[]=>by simp[compareBytes]
 |a::mY,b::bs=>by
  unfold compareBytes;simp only[vz];by_cases h:a.toNat<b.toNat
  .have:¬b.toNat<a.toNat:=by omega
   simp[h,this]
  .by_cases h':b.toNat<a.toNat
   simp[h,h'];simp only[h,h',xm];exact Mk mY bs
theorem Ml:∀a b,compareBytes a b=0<->a=b
 | [],[]=>by simp[compareBytes]
 | [],_::_=>by simp[compareBytes]
 |_::_,[]=>by simp[compareBytes]
 |a::mY,b::bs=>by
  unfold compareBytes;simp only[vz,x5,<-UInt8.toNat_inj];by_cases h:a.toNat<b.toNat
  simp[h];omega
  .by_cases h':b.toNat<a.toNat
   simp[h,h'];omega
   .have:a.toNat=b.toNat:=by omega
    simp only[this,Nat.lt_irrefl,xm,v7];exact Ml mY bs
theorem Mm:∀a b c,compareBytes a b<=0->compareBytes b c<=0->compareBytes a c<=0
 | [],_,[]=>by simp[compareBytes]
 | [],_,_::_=>by simp[compareBytes]
 |_::_,[],_=>by simp[compareBytes]
 |_::_,_::_,[]=>by simp[compareBytes]
 |a::mY,b::bs,c::cs=>by
  unfold compareBytes;simp only[vz];have ih:=Mm mY bs cs
  (repeat' split)<;>first|omega|(intro x y;first|exact ih x y|omega)
def cmpL(a b:List UInt8):Int:=compareBytes a b
theorem kr:jS cmpL where
 cN a b:=Mj _ _
 anti a b:=Mk _ _
 zero a b:=Ml _ _
 trans a b d:=Mm _ _ _
def J1{J Y:Type}(c:J->J->Int)(d:Y->Y->Int)(a b:J×Y):Int:=if c a.1 b.1≠0 then c a.1 b.1 else d a.2 b.2
theorem UR{J Y:Type}{c:J->J->Int}{d:Y->Y->Int}(hc:jS c)(hd:jS d):jS (J1 c d) where
 cN a b:=by unfold J1;split<;>first|exact hc.cN _ _|exact hd.cN _ _
 anti a b:=by
  unfold J1;rw[hc.anti a.1 b.1,hd.anti a.2 b.2];by_cases h:c a.1 b.1=0
  simp[h]
  .have:¬ -c a.1 b.1=0:=by omega
   simp[h,this]
 zero a b:=by
  unfold J1;by_cases h:c a.1 b.1=0
  .simp only[h,ne_eq,not_true_eq_false,xm];rw[hd.zero];have hf:=(hc.zero _ _).1 h;exact⟨fun hg=>Prod.ext hf hg,fun e=>by rw[e]⟩
  .simp only[ne_eq,h,x9,yH,false_iff];intro e;subst e;exact h ((hc.zero _ _).2 rfl)
 trans a b e:=by
  unfold J1;intro h1 h2;have r1:=hc.cN a.1 b.1;have r2:=hc.cN b.1 e.1;have t1:=hc.trans a.1 b.1 e.1;by_cases x:c a.1 b.1=0
  .have ex:=(hc.zero _ _).1 x;simp only[x,ne_eq,not_true_eq_false,xm]at h1;rw[ex];by_cases y:c b.1 e.1=0
   .simp only[y,ne_eq,not_true_eq_false,xm]at h2⊢;exact hd.trans _ _ _ h1 h2
   .simp only[ne_eq,y,x9,yH]at h2⊢;exact h2
  .simp only[ne_eq,x,x9,yH]at h1;by_cases y:c b.1 e.1=0
   .have ey:=(hc.zero _ _).1 y;rw[<-ey];simp only[ne_eq,x,x9,yH];exact h1
   .simp only[ne_eq,y,x9,yH]at h2;have hle:=t1 h1 h2
    have hne:c a.1 e.1≠0:=by
     intro hz;have e1:=(hc.zero _ _).1 hz;rw[<-e1]at h2 y;have:=hc.anti a.1 b.1;omega
    simp only[ne_eq,hne,x9,yH];exact hle
theorem Mn{K J:Type}{c:J->J->Int}(hc:jS c)(f:K->J)(hf:∀a b,f a=f b->a=b):jS (fun a b=>c (f a) (f b)) where
 cN a b:=hc.cN _ _
 anti a b:=hc.anti _ _
 zero a b:=by rw[hc.zero];exact⟨hf a b,fun e=>by rw[e]⟩
 trans a b d:=hc.trans _ _ _
theorem Mp:∀a b:List UInt8,Op.bytesLess a b=decide (Lib.compareBytes a b<0)
 | [],[]=>by simp[Op.bytesLess,Lib.compareBytes]
 | [],_::_=>by simp[Op.bytesLess,Lib.compareBytes]
 |_::_,[]=>by simp[Op.bytesLess,Lib.compareBytes]
 |a::mY,b::bs=>by
  unfold Op.bytesLess Lib.compareBytes;rw[Mp mY bs];simp only[vz]
  have Co:(a==b)=decide (a.toNat=b.toNat):=by
   rw[yh];simp[UInt8.toNat_inj]
  rw[Co];by_cases h:a.toNat<b.toNat
  simp[h]
  .by_cases h':b.toNat<a.toNat
   .have:¬a.toNat=b.toNat:=by omega
    simp[h,h',this]
   .have:a.toNat=b.toNat:=by omega
    simp[this]
def Tm.key(x:Tm):Int×List UInt8×List UInt8×List UInt8:=(x.k,x.t,x.y,x.l)
def Wc(a b:Tm):Int:=J1 wP (J1 cmpL (J1 cmpL cmpL)) a.key b.key
theorem mZ:jS Wc:=Mn (UR eV (UR kr (UR kr kr))) Tm.key (fun a b h=>by
 cases a;cases b;simp[Tm.key]at h;simp[h])
def Qd.key(q:Qd):Tm×Tm×Tm×Tm:=(q.g,q.s,q.p,q.o)
def ZJ(a b:Qd):Int:=J1 Wc (J1 Wc (J1 Wc Wc)) a.key b.key
theorem qO:jS ZJ:=Mn (UR mZ (UR mZ (UR mZ mZ))) Qd.key (fun a b h=>by
 cases a;cases b;simp[Qd.key]at h;simp[h])
def oN:List Int->Int
 | []=>0
 |x::l=>if x≠0 then x else oN l
theorem ZjV(a b:Tm):oN [wP a.k b.k,cmpL a.t b.t,cmpL a.y b.y,cmpL a.l b.l]=Wc a b:=by
 simp only[oN,Wc,J1,Tm.key]
 (repeat' split)<;>simp_all
theorem ZjW(a b:Qd):oN [Wc a.g b.g,Wc a.s b.s,Wc a.p b.p,Wc a.o b.o]=ZJ a b:=by
 simp only[oN,ZJ,J1,Qd.key]
 (repeat' split)<;>simp_all
abbrev Qd.row(q:Qd):List SV:=[.int .i64 q.s.k, .str q.s.t, .str q.s.y, .str q.s.l, .int .i64 q.p.k, .str q.p.t, .str q.p.y, .str q.p.l, .int .i64 q.o.k, .str q.o.t, .str q.o.y, .str q.o.l, .int .i64 q.g.k, .str q.g.t, .str q.g.y, .str q.g.l]
def Zd(q:Qd):List SV:=q.row
def nw(x:Tm):List SV:=[.int .i64 x.k, .str x.t, .str x.y, .str x.l]
instance :bu nw:=⟨fun _=>rfl⟩
theorem Tm.ext'{a b:Tm}(h:nw a=nw b):a=b:=by
 obtain⟨_,_,_,_⟩:=a;obtain⟨_,_,_,_⟩:=b;simp only[nw,x5,SV.int.injEq,SV.str.injEq,v7,vp]at h
 simp_all
def Xj:Qd:=⟨ZF,ZF,ZF,ZF⟩
theorem Za(l:List Qd):Zj (l.map Zd)=true:=ZN _ (fun _=>rfl) l
instance :bu Zd:=⟨fun _=>rfl⟩
theorem Mq{l:List Qd}{i:Nat}(h:i<l.length):(l.map Zd)[i]?=some (Zd l[i]):=by rw[z7,z1 h];rfl
theorem Zd1{K:Type}(f:K->List SV)(l z:List K):(((l++z).map f).drop 0).take l.length=l.map f:=by
 rw[xA,yo,vq (by simp),zo (by simp)]
theorem Mt{K:Type}(f:K->List SV)(l:List K)(i:Nat)(x:K):(l.map f).set i (f x)=(l.set i x).map f:=by rw[xZ]
theorem YT{K:Type}{f:K->List SV}{l:List K}{i j:Nat}(h:i<l.length)(hj:j=i):(l.map f)[j]?=some (f l[i]):=by
 subst hj;rw[z7,z1 h];rfl
theorem Qd.ext'{a b:Qd}(h:Zd a=Zd b):a=b:=by
 obtain⟨⟨_,_,_,_⟩,⟨_,_,_,_⟩,⟨_,_,_,_⟩,⟨_,_,_,_⟩⟩:=a;obtain⟨⟨_,_,_,_⟩,⟨_,_,_,_⟩,⟨_,_,_,_⟩,⟨_,_,_,_⟩⟩:=b;simp only[Zd,Qd.row,x5,SV.int.injEq,SV.str.injEq,v7,vp]at h
 simp_all
end Go.Our
set_option linter.unusedSectionVars false
namespace Go.Our
section
variable {K:Type}{c:K->K->Int}
theorem jS.lt_trans(h:jS c){x y z:K}(h1:c x y<0)(h2:c y z<=0):c x z<0:=by
 have h3:=h.trans x y z (by omega) h2;rcases vK h3 with h4|h4
 exact h4
 .have e:=(h.zero x z).1 h4;subst e;have:=h.anti x y;omega
theorem jS.rE(h:jS c){x y z:K}(h1:c x y<=0)(h2:c y z<0):c x z<0:=by
 have h3:=h.trans x y z h1 (by omega);rcases vK h3 with h4|h4
 exact h4
 .have e:=(h.zero x z).1 h4;subst e;have:=h.anti x y;omega
theorem jS.self(h:jS c)(x:K):c x x=0:=(h.zero x x).2 rfl
theorem jS.ne(h:jS c){x y:K}(hl:c x y<0):x≠y:=fun e=>by subst e;have:=h.self x;omega
def jr(c:K->K->Int)(l:List K):Prop:=l.Pairwise fun a b=>c a b<0
theorem Mu(h:jS c):∀{l m:List K},jr c l->jr c m->(∀x,x∈l<->x∈m)->l=m
 | [],[],_,_,_=>rfl
 | [],y::m,_,_,he=>by have:=(he y).2 (by simp);simp at this
 |x::l,[],_,_,he=>by have:=(he x).1 (by simp);simp at this
 |x::l,y::m,hl,hm,he=>by
  have hl:=xg.1 hl;have hm:=xg.1 hm
  have hxy:x=y:=by
   rcases zI.1 ((he x).1 (by simp))with e|hx
   exact e
   .rcases zI.1 ((he y).2 (by simp))with e|hy
    exact e.symm
    .have h1:=hm.1 x hx;have h2:=hl.1 y hy;have:=h.anti x y;omega
  subst hxy;congr 1;refine Mu h hl.2 hm.2 fun z=>⟨fun hz=>?_,fun hz=>?_⟩
  .rcases zI.1 ((he z).1 (by simp[hz]))with e|h1
   subst e;exact(h.ne (hl.1 _ hz) rfl).elim;exact h1
  .rcases zI.1 ((he z).2 (by simp[hz]))with e|h1
   subst e;exact(h.ne (hm.1 _ hz) rfl).elim;exact h1
end
section
variable {K:Type}[DecidableEq K]{c:K->K->Int}
def Z1:List K->List K
 | []=>[]
 | [a]=>[a]
 |a::b::l=>if a=b then Z1 (b::l)else a::Z1 (b::l)
theorem VO:∀(l:List K) (x:K),x∈Z1 l<->x∈l
 | [],x=>by simp[Z1]
 | [a],x=>by simp[Z1]
 |a::b::l,x=>by
  have ih:=VO (b::l) x;unfold Z1;split
  rename_i e;subst e;rw[ih];simp;rw[zI,ih];simp[zI]
def wW(c:K->K->Int)(x y:K):Bool:=!(decide (c y x<0))
theorem Up(h:jS c){x y:K}:wW c x y=true<->c x y<=0:=by
 have:=h.anti x y;unfold wW;simp only[vr,yL];omega
theorem Uq(h:jS c):∀(l:List K),l.Pairwise (fun a b=>c a b<=0)->jr c (Z1 l)
 | [],_=>List.Pairwise.nil
 | [a],_=>by simp[Z1,jr]
 |a::b::l,hp=>by
  have hp':=xg.1 hp;have ih:=Uq h (b::l) hp'.2;unfold Z1;split
  exact ih
  .rename_i hne;refine xg.2 ⟨fun x hx=>?_,ih⟩;rw[VO]at hx
   have hab:c a b<0:=by
    have h1:=hp'.1 b (by simp);have h2:c a b≠0:=fun e=>hne ((h.zero a b).1 e);omega
   rcases zI.1 hx with rfl|hx
   exact hab;exact h.lt_trans hab ((xg.1 hp'.2).1 x hx)
def wQ(c:K->K->Int)(l:List K):List K:=Z1 (l.mergeSort (wW c))
theorem Vc(l:List K)(x:K):x∈wQ c l<->x∈l:=by
 unfold wQ;rw[VO];exact List.mem_mergeSort
theorem J7(h:jS c)(l:List K):jr c (wQ c l):=by
 refine Uq h _ ?_
 have:=List.pairwise_mergeSort (le:=wW c) (fun a b d h1 h2=>by rw[Up h]at*;exact h.trans a b d h1 h2) (fun a b=>by
  have:=h.anti a b
  rw[xD,Up h,Up h];omega) l
 exact this.imp fun h1=>(Up h).1 h1
theorem Cp(h:jS c){l m:List K}(hm:jr c m)(he:∀x,x∈m<->x∈l):m=wQ c l:=Mu h hm (J7 h l) fun x=>(he x).trans (Vc l x).symm
theorem VP:∀(l:List K),(Z1 l).length<=l.length
 | []=>by simp[Z1]
 | [a]=>by simp[Z1]
 |a::b::l=>by
  have ih:=VP (b::l);unfold Z1;split
  simp only[List.length_cons]at ih⊢;omega;simp only[List.length_cons]at ih⊢;omega
theorem Cq(l:List K):(wQ c l).length<=l.length:=by
 have:=VP (l.mergeSort (wW c));rw[yE]at this;exact this
end
end Go.Our
namespace Go.Our
section
variable {K:Type}{c:K->K->Int}
def wanted(f b s p q:Prop):Prop:=(f/\p/\¬q)\/(b/\p/\q)\/(s/\¬p/\q)
end
section
variable {K:Type}[DecidableEq K]{c:K->K->Int}
theorem Mv{l:List K}(hl:jr c l){i j:Nat}(hij:i<j)(hj:j<l.length):c (l[i]'(by omega)) l[j]<0:=yR.1 hl i j (by omega) hj hij
theorem X4:∀{l:List K} {i:Nat} (h0:1<=i) (h:i<l.length),Z1 (l.take (i+1))=if l[i]=l[i-1]'(by omega)then Z1 (l.take i)else Z1 (l.take i)++ [l[i]]
 | [],i,_,h=>by simp at h
 | [a],i,h0,h=>by simp at h;omega
 |a::b::l,0,h0,h=>by omega
 |a::b::l,1,h0,h=>by
  simp only[List.take_succ_cons,List.take_zero,Z1,List.getElem_cons_succ,List.getElem_cons_zero,v8];by_cases e:a=b
  subst e;simp;rw[z6 e,z6 (fun h=>e h.symm)];rfl
 |a::b::l,i+2,h0,h=>by
  have hi:i+1< (b::l).length:=by simpa using h
  have ih:=X4 (l:=b::l) (i:=i+1) (by omega) hi;have e2:(a::b::l)[i+2-1]'(by simp at h⊢;omega)=(b::l)[i+1-1]'(by simp at h⊢;omega):=rfl;have e3:(a::b::l)[i+2]=(b::l)[i+1]:=rfl;rw[e2,e3];simp only[List.take_succ_cons,Z1]at ih⊢;by_cases e:a=b
  simp only[z8 e];exact ih
  .simp only[z6 e,ih];split<;>simp
theorem VQ{l:List K}(h:l.length<2):Z1 l=l:=by
 match l,h with
 | [],_=>rfl
 | [a],_=>rfl
theorem WG{l:List K}:Z1 (l.take 1)=l.take 1:=VQ (by simp;omega)
end
section
variable {K:Type}[DecidableEq K]{c:K->K->Int}
end
def ZV(t:Tm):List (List UInt8):=if t.k=2 then [t.t]else []
def ZB(q:Qd):List (List UInt8):=ZV q.s++ZV q.p++ZV q.o++ZV q.g
def ZR(l:List Qd):List (List UInt8):=l.flatMap ZB
abbrev Pr:=List UInt8×List UInt8
def uW(ps:List Pr)(s:List UInt8):Option (List UInt8):=(ps.find? fun p=>decide (p.1=s)).map Prod.snd
def ZT(ps:List Pr)(t:Tm):Tm:=if t.k=2 then match uW ps t.t with|some u=>{t with t:=u}|none=>t else t
def XO(ps:List Pr)(q:Qd):Qd:=⟨ZT ps q.s,ZT ps q.p,ZT ps q.o,ZT ps q.g⟩
end Go.Our
namespace Go.Our
open Go.Sx
structure ah(Z:Type)[DecidableEq Z] where
 ks:Bool×List CK
 enc:Z->SV
 is:∀a b,Wx ks (enc a) (enc b)=decide (a=b)
 ok:∀a,Ji ks (enc a)=true
 pl:∀a,plain (enc a)=true
section
variable {Z Y:Type}[DecidableEq Z](K:ah Z)
def VR(f:Y->SV)(l:List (Z×Y)):List (List SV):=l.map fun p=>[K.enc p.1,f p.2]
def YG(es:Nat)(f:Y->List (List SV))(l:List (Z×Y)):List (List DC):=l.map fun p=>[.v (K.enc p.1), .uC es (f p.2)]
def js(a:Z):List (Z×Y)->Option (Nat×Y)
 | []=>none
 |(k,v)::r=>if a=k then some (0,v)else(js a r).map fun p=>(p.1+1,p.2)
def qi(a:Z):List (Z×Y)->Option Y
 | []=>none
 |(k,v)::r=>if a=k then some v else qi a r
def qv(a:Z)(v:Y):List (Z×Y)->List (Z×Y)
 | []=>[(a,v)]
 |(k,u)::r=>if a=k then(k,v)::r else(k,u)::qv a v r
theorem Cr(a:Z):∀l:List (Z×Y),(js a l).map Prod.snd=qi a l
 | []=>rfl
 |(k,v)::r=>by
  unfold js qi;split
  rfl
  rw[vP,<-Cr a r];rfl
theorem VS{a:Z}{l:List (Z×Y)}(h:js a l=none):qi a l=none:=by rw[<-Cr,h];rfl
theorem VT{a:Z}{l:List (Z×Y)}{i:Nat}{v:Y}(h:js a l=some (i,v)):qi a l=some v:=by rw[<-Cr,h];rfl
theorem H8(a b:Z)(v:Y):∀l:List (Z×Y),qi b (qv a v l)=if b=a then some v else qi b l
 | []=>by
   simp only[qv,qi]
 |(k,u)::r=>by
  unfold qv;by_cases h:a=k
  .subst h;rw[z8 rfl];simp only[qi];by_cases e:b=a
   rw[z8 e,z8 e];rw[z6 e,z6 e,z6 e]
  .rw[z6 h];simp only[qi,H8 a b v r];by_cases e:b=k
   subst e;rw[z8 rfl,z6 (fun e=>h e.symm),z8 rfl];rw[z6 e,z6 e]
theorem Qb(f:Y->SV)(a:Z):∀(l:List (Z×Y)) (i:Nat),X1 K.ks (K.enc a) i (VR K f l)=(js a l).map fun p=>(i+p.1,f p.2)
 | [],i=>rfl
 |(k,v)::r,i=>by
  have ih:=Qb f a r (i+1);simp only[VR,zL,X1,K.is,js]at ih⊢;by_cases h:a=k
  simp[h]
  .simp only[h,decide_false,xm,ih,vP];congr 1;funext p;simp only[Function.comp,yF,vp];omega
theorem YW(f:Y->SV)(l:List (Z×Y)):Jn K.ks (VR K f l):=by
 intro r hr;obtain⟨p,_,rfl⟩:=zM.1 hr;exact⟨_,_,rfl,K.ok _⟩
theorem US{a:Z}{v:Y}:∀{l:List (Z×Y)} {i:Nat} {u:Y},js a l=some (i,u)->qv a v l=l.modify i (fun p=>(p.1,v))
 | [],_,_,h=>by cases h
 |(k,w)::r,i,u,h=>by
  unfold js at h;unfold qv;split at h
  .rename_i e;injection h with h;injection h with h1 h2;subst h1;rw[z8 e,List.modify_zero_cons]
  .rename_i e;obtain⟨⟨j,x⟩,hj,he⟩:=zH.1 h;injection he with h1 h2;subst h1;rw[z6 e,List.modify_succ_cons,US hj]
theorem Ur{a:Z}{v:Y}:∀{l:List (Z×Y)},js a l=none->qv a v l=l++ [(a,v)]
 | [],_=>rfl
 |(k,w)::r,h=>by
  unfold js at h;unfold qv;split at h
  cases h
  .rename_i e;rw[z6 e,List.cons_append,Ur (by simpa using h)]
theorem Cs(f:Y->SV)(a:Z)(v:Y)(l:List (Z×Y)):jk K.ks (K.enc a) (f v) (VR K f l)=VR K f (qv a v l):=by
 unfold jk;rw[Qb];cases h:js a l with
 |none=>simp only[Option.map_none];rw[Ur h];simp[VR]
 |some p=>
  obtain⟨i,u⟩:=p;simp only[Option.map_some,zw];rw[US h];unfold VR;apply yj;intro j;rw[ym,z7,z7,ym];by_cases e:i=j
  .subst e;cases l[i]?<;>simp[fM]
  cases l[j]?<;>simp[e]
theorem H9(f:Y->SV)(hf:∀b,plain (f b)=true)(l:List (Z×Y)):Zj (VR K f l)=true:=by
 unfold VR;exact ZN _ (fun p=>by simp only[YN,K.pl,hf,zS]) l
theorem Qc(es:Nat)(f:Y->List (List SV))(a:Z):∀(l:List (Z×Y)) (i:Nat),findD K.ks (K.enc a) i (YG K es f l)=(js a l).map fun p=>(i+p.1, .uC es (f p.2))
 | [],i=>rfl
 |(k,v)::r,i=>by
  have ih:=Qc es f a r (i+1);simp only[YG,zL,findD,Y0,K.is,js]at ih⊢;by_cases h:a=k
  simp[h]
  .simp only[h,decide_false,xm,ih,vP];congr 1;funext p;simp only[Function.comp,yF,vp];omega
theorem Mw(es:Nat)(f:Y->List (List SV))(l:List (Z×Y)):Jn K.ks (ZA (YG K es f l)):=by
 intro r hr;unfold ZA YG at hr;rw[yq]at hr;obtain⟨p,_,rfl⟩:=zM.1 hr;exact⟨_,_,rfl,K.ok _⟩
theorem ZjX(es:Nat)(f:Y->List (List SV))(a:Z)(v:Y)(l:List (Z×Y)):jl K.ks (K.enc a) (.uC es (f v)) (YG K es f l)=YG K es f (qv a v l):=by
 unfold jl;rw[Qc];cases h:js a l with
 |none=>simp only[Option.map_none];rw[Ur h];simp[YG]
 |some p=>
  obtain⟨i,u⟩:=p;simp only[Option.map_some,zw];rw[US h];unfold YG;apply yj;intro j;rw[ym,z7,z7,ym];by_cases e:i=j
  .subst e;cases l[i]?<;>simp[jU]
  cases l[j]?<;>simp[e]
theorem KN{a:Z}:∀{l:List (Z×Y)} {i:Nat} {u:Y},js a l=some (i,u)->l[i]?=some (a,u)
 | [],i,u,h=>by cases h
 |(k,w)::l,i,u,h=>by
  unfold js at h;split at h
  .rename_i e;injection h with h;injection h with h1 h2;subst h1 h2 e
   rfl
  .obtain⟨⟨j,x⟩,hj,he⟩:=zH.1 h;injection he with h1 h2;subst h1 h2;simpa using KN hj
theorem Zie(es:Nat)(f:Y->List (List SV))(d:DC){a:Z}{v:Y}{l:List (Z×Y)}{i j:Nat}{u:Y}(h:js a l=some (i,u))(hj:j=i):((YG K es f l).modify i (jU d)).modify j (jU (.uC es (f v)))=YG K es f (qv a v l):=by
 subst hj;rw[US h];unfold YG;apply yj;intro k;rw[ym,ym,z7,z7,ym];by_cases e:j=k
 .subst e;rw[KN h];simp[jU]
 cases l[k]?<;>simp[e]
theorem My(es:Nat)(f:Y->List (List SV))(hf:∀b,Zj (f b)=true):∀l:List (Z×Y),ZD (YG K es f l)=true
 | []=>rfl
 |p::l=>by
  have ih:=My es f hf l;unfold YG at ih⊢;simp only[zL,ZD,Yi,Jl,K.pl,hf,ih,zS]
end
section
variable {Z Y:Type}[DecidableEq Z]
theorem jx.A(K:ah Z)(f:Y->SV)(a:Z)(l:List (Z×Y)){J:Type}{A:Nat->SV->J->Prop}{B:J->Prop}{j:J}(hs:∀i v,js a l=some (i,v)->A (0+i) (f v) j)(hn:js a l=none->B j):jx (X1 K.ks (K.enc a) 0 (VR K f l)) A B j:=by
 refine jx.mk (fun i v hf=>?_) (fun hf=>?_)
 .obtain⟨⟨k,x⟩,hj,he⟩:=zH.1 ((Qb K f a l 0).symm.trans hf);cases he
  exact hs _ _ hj
 exact hn (xK.1 ((Qb K f a l 0).symm.trans hf))
theorem wZ.A(K:ah Z)(es:Nat)(f:Y->List (List SV))(a:Z)(l:List (Z×Y)){J:Type}{A:Nat->DC->J->Prop}{B:J->Prop}{j:J}(hs:∀i v,js a l=some (i,v)->A (0+i) (.uC es (f v)) j)(hn:js a l=none->B j):wZ (findD K.ks (K.enc a) 0 (YG K es f l)) A B j:=by
 refine wZ.mk (fun i v hf=>?_) (fun hf=>?_)
 .obtain⟨⟨k,x⟩,hj,he⟩:=zH.1 ((Qc K es f a l 0).symm.trans hf);cases he
  exact hs _ _ hj
 exact hn (xK.1 ((Qc K es f a l 0).symm.trans hf))
end
def KQ:ah Qd where
 ks:=(true,[.int .i64, .str, .str, .str, .int .i64, .str, .str, .str, .int .i64, .str, .str, .str, .int .i64, .str, .str, .str])
 enc:=Qd.sv
 is a b:=by
  obtain⟨⟨a1,a2,a3,a4⟩,⟨a5,a6,a7,a8⟩,⟨a9,b1,b2,b3⟩,⟨b4,b5,b6,b7⟩⟩:=a;obtain⟨⟨c1,c2,c3,c4⟩,⟨c5,c6,c7,c8⟩,⟨c9,d1,d2,d3⟩,⟨d4,d5,d6,d7⟩⟩:=b;rw[yh];simp[Wx,Jy,ZW,Zi,Qd.sv,XF];simp only[and_assoc]
 ok a:=by simp[Ji,Jy,ZW,Zi,Qd.sv,XF]
 pl a:=rfl
def KT:ah (List UInt8) where
 ks:=(false,[.str])
 enc:= .str
 is a b:=by rw[yh];simp[Wx,Jy,ZW,Zi]
 ok a:=by simp[Ji,Jy,ZW,Zi]
 pl a:=rfl
def KI:ah Int where
 ks:=(false,[.int .i64])
 enc:= .int .i64
 is a b:=by rw[yh];simp[Wx,Jy,ZW,Zi,XF]
 ok a:=by simp[Ji,Jy,ZW,Zi,XF]
 pl a:=rfl
abbrev LB:=List UInt8
end Go.Our
namespace Go.Our
open Go Go.Sx
structure Sd where
 q:Qd
 a:Int
 b:Int
 c:Int
 d:Int
def Us(s:Sd):List SV:=[.int .i64 s.q.s.k, .str s.q.s.t, .str s.q.s.y, .str s.q.s.l, .int .i64 s.q.p.k, .str s.q.p.t, .str s.q.p.y, .str s.q.p.l, .int .i64 s.q.o.k, .str s.q.o.t, .str s.q.o.y, .str s.q.o.l, .int .i64 s.q.g.k, .str s.q.g.t, .str s.q.g.y, .str s.q.g.l,
 .int .i64 s.a, .int .i64 s.b, .int .i64 s.c, .int .i64 s.d]
theorem Zif(l:List Sd):Zj (l.map Us)=true:=ZN _ (fun _=>rfl) l
instance :bu Us:=⟨fun _=>rfl⟩
theorem ZfJ{l:List Sd}{i:Nat}(h:i<l.length):(l.map Us)[i]?=some (Us l[i]):=by rw[z7,z1 h];rfl
def KO(l:List Sd):List DC:=[.uC 20 (l.map Us)]
def kV(ins:List (List Sd)):List (List DC):=ins.map KO
theorem Mz:∀ins:List (List Sd),ZD (kV ins)=true
 | []=>rfl
 |l::ins=>by simp only[kV,zL,KO,ZD,Yi,Jl,Zif,zS,xF];exact Mz ins
instance {ins:List (List Sd)}:bQ (kV ins):=⟨Mz ins⟩
theorem Qe{ins:List (List Sd)}{i:Nat}(h:i<ins.length):(kV ins)[i]?=some (KO ins[i]):=by unfold kV;rw[z7,z1 h];rfl
theorem MA(ins:List (List Sd)):(kV ins).length=ins.length:=by simp[kV]
def wm(f:LB->Int)(t:Tm):Int:=if t.k=2 then f t.t else-1
def gP(f:LB->Int)(q:Qd):Sd:=⟨q,wm f q.s,wm f q.p,wm f q.o,wm f q.g⟩
def Zv(q:Qd):List Tm:=[q.s,q.p,q.o,q.g]
def qP(f:LB->Int)(acc:List Int)(t:Tm):List Int:=if t.k=2 then(if f t.t∈acc then acc else acc++ [f t.t])else acc
def wE(f:LB->Int)(q:Qd):List Int:=(Zv q).foldl (qP f) []
def jE(s:Sd)(ins:List (List Sd))(n:Int):List (List Sd):=ins.modify n.toNat (· ++ [s])
def kL(f:LB->Int)(ins:List (List Sd))(q:Qd):List (List Sd):=(wE f q).foldl (jE (gP f q)) ins
theorem MB(s:Sd)(ins:List (List Sd))(n:Int):(jE s ins n).length=ins.length:=by unfold jE;rw[vJ]
theorem He(s:Sd):∀(l:List Int) (ins:List (List Sd)),(l.foldl (jE s) ins).length=ins.length
 | [],_=>rfl
 |n::l,ins=>by rw[List.foldl_cons,He s l,MB]
theorem MC(f:LB->Int)(ins:List (List Sd))(q:Qd):(kL f ins q).length=ins.length:=He _ _ _
theorem MD(f:LB->Int)(q:Qd):(wE f q).length<=4:=by
 have step:∀acc t,(qP f acc t).length<=acc.length+1:=fun acc t=>by
  unfold qP;split
  split<;>simp
  simp
 unfold wE Zv;simp only[List.foldl_cons,List.foldl_nil];have h1:=step [] q.s;have h2:=step (qP f [] q.s) q.p;have h3:=step (qP f (qP f [] q.s) q.p) q.o;have h4:=step (qP f (qP f (qP f [] q.s) q.p) q.o) q.g;simp only[List.length_nil]at h1;omega
def Ct(n:Nat)(l:List Int):Prop:=∀x∈l,0<=x/\x< (n:Int)
theorem UT{J K:Type}(g:K->J->K)(b:K)(l:List J){i:Nat}(h:i<l.length):(l.take (i+1)).foldl g b=g ((l.take i).foldl g b) l[i]:=by
 rw[zB h,vt];rfl
end Go.Our
namespace Go.Sx
open Go Go.Sort Go.Shelf Go.Proofs
theorem vU.later{M:Mx}{K:Env}{w w':World}{O:u0}{nx:Nat}(H:vU M K w O nx)(hf:jw w w' fun _=>False):vU M K w' O nx:=by
 have hk:∀{i h},u6 i O=some h->∀k,u5 K w (.loc i) h k->w'.heap[k]?=w.heap[k]?:=fun hi k f=>hf.block k ((H.own.1 _ _ hi).1.uL f) (fun h=>h);have hb:∀{i h},u6 i O=some h->∀k,u5 K w' (.loc i) h k->u5 K w (.loc i) h k:=fun hi k f=>H.stands zx hi (hk hi) f;exact⟨H.pre,H.len,⟨fun i h hi=>⟨(H.own.1 i h hi).1.keep (hk hi),fun k f=>(H.own.1 i h hi).2 k (hb hi k f)⟩,fun i j h h' k hi hj hij f f'=>H.own.2 i j h h' k hi hj hij (hb hi k f) (hb hj k f')⟩,H.fr.trans hf (fun n h=>h.elim),H.wH⟩
theorem jw.grown{w w':World}(h:jw w w' fun _=>False):∃q os,w'=grow (w.drewN q) os:=by
 refine⟨w'.drawn-w.drawn,w'.heap.extract w.heap.size,?_⟩;have hd:=h.drawn
 have e1:w'.heap=w.heap++w'.heap.extract w.heap.size:=by
  apply xL;intro k;rcases yD k w.heap.size with hk|hk
  rw[ya hk];exact h.block k hk (fun x=>x)
  .rw[Array.getElem?_append_right hk,Array.getElem?_extract];simp only[Nat.min_self];split
   rw[show w.heap.size+(k-w.heap.size)=k by omega]
   .rename_i hn;exact xJ (by omega)
 obtain⟨heap,tape,drawn,os,output⟩:=w;obtain⟨heap',tape',drawn',os',output'⟩:=w';have h1:=h.os;have h2:=h.tape;have h3:=h.output;simp only at h1 h2 h3 hd e1;subst h1 h2 h3;simp only[grow,World.drewN];rw[<-e1];congr 1;omega
section
variable {J:Type}[Inhabited J](enc:J->List Value)(k:Nat)
theorem JG(w:World)(blk off m:Nat)(dk:Array J)(os:Array Obj):(sortWorldK enc k w blk off m dk os).heap=(mapBlock w blk (putCells id off (flatK enc k dk))).heap++os:=by
 simp[sortWorldK,grow,putRowK,putRow,mapBlock,Sort.ahead]
theorem Ut(w:World)(blk off m:Nat)(dk:Array J)(os:Array Obj):w.heap.size<=(sortWorldK enc k w blk off m dk os).heap.size:=by
 rw[JG];simp[mapBlock]
theorem U8(w:World)(blk off m:Nat)(dk:Array J)(os:Array Obj){g:Nat}(hg:g<w.heap.size)(hne:g≠blk):(sortWorldK enc k w blk off m dk os).heap[g]?=w.heap[g]?:=by
 rw[JG,ya (by simpa[mapBlock]using hg)];simp only[mapBlock,y7];rw[z6 (fun h=>hne h.symm)]
theorem Z4d(w:World)(blk off m:Nat)(dk:Array J)(os:Array Obj){c:Array Value}{T:TypeId}{fz:Nat×Nat}(h:w.heap[blk]?=some (.cells c T fz)):(sortWorldK enc k w blk off m dk os).heap[blk]?=some (.cells (putCells id off (flatK enc k dk) c) T fz):=by
 have hlt:=(zC.1 h).1;rw[JG,ya (by simpa[mapBlock]using hlt)];simp only[mapBlock,y7,yH,h,Option.map_eq_map,Option.map_some,onCells]
end
theorem Hf{w:World}{g i:Nat}{c:Array Value}{T:TypeId}{fz:Nat×Nat}(h:w.heap[g]?=some (.cells c T fz)):w.cell? ⟨g,i,none⟩=c[i]?:=by simp[World.cell?,h]
theorem Zb5{P:Program}{T:qg}{J:Type}[Inhabited J]{enc:J->List Value}{k:Nat}{row:J->List SV}{g:FuncId}{cf:J->J->Int}{blk off size:Nat}{w:World}(ny:T.qS.all (fun p=>sG p.2)=true)(hblk:∀h,u6 blk T.qS≠some h)
 (hc:∀x y,vW P T g 0 [.agg (row x), .agg (row y)] [] [] (wF (.int .i64 (cf x y)))) (eg:∀args w,(callFunc g args).run P w= .ok (.enter g args) w)
 (hrow:∀K x,vX K (row x) (enc x)/\∀u∈enc x,u.oneCell'=true) (hg:∀g h,u6 g T.qS=some h->vV [] w false (.uM g) h/\g<w.heap.size):CmpLays P g #[] enc k cf blk off size w:=by
 intro m os dk hdk x y
 have hg':∀g h,u6 g T.qS=some h->vV [] (sortWorldK enc k w blk off m dk os) false (.uM g) h/\g< (sortWorldK enc k w blk off m dk os).heap.size:=by
  intro g' h hh;obtain⟨h1,h2⟩:=hg g' h hh;have hne:g'≠blk:=fun e=>hblk h (e▸hh);refine⟨h1.keep fun n f=>?_,yI h2 (Ut enc k w blk off m dk os)⟩;have hlt:=h1.uL f;obtain⟨e,he,hf⟩:=f;cases he
  rcases hf with rfl|hf
  exact U8 enc k w blk off m dk os hlt hne;exact(WW (zN.1 ny _ (Uk hh)) hf).elim
 have:=vW.calls (hc x y) eg (vs:=[.agg (enc x).toArray, .agg (enc y).toArray]) (w:=sortWorldK enc k w blk off m dk os) (by
  simp only[vX,Den]
  exact⟨_,_,rfl,⟨_,rfl,(hrow [] x).1,(hrow [] x).2⟩,_,_,rfl,⟨_,rfl,(hrow [] y).1,(hrow [] y).2⟩,rfl⟩) hg'
 refine this.mono ?_;rintro e w' ⟨v,rfl,hv,hf⟩;simp only[Den]at hv;subst hv;exact⟨rfl,hf.grown⟩
theorem MI{J:Type}[Inhabited J]{enc:J->List Value}{k:Nat}(hk:∀x,(enc x).length=k){l:List J}{i j:Nat}{x:J}(hi:l[i]?=some x)(hj:j<k):(flatK enc k l.toArray)[i*k+j]! =(enc x)[j]!/\i*k+j<l.length*k:=by
 have hil:=(zg.1 hi).1
 have hlt:i*k+j<l.length*k:=by
  have:(i+1)*k<=l.length*k:=yl k hil;rw[yB]at this;omega
 refine⟨?_,hlt⟩;rw[get_flatK _ _ _ _ (by simpa using hlt)];have h1:(i*k+j)/k=i:=by rw[vw,Nat.mul_add_div (by omega),Nat.div_eq_of_lt hj,Nat.add_zero]
 have h2:(i*k+j)%k=j:=by rw[vw,Nat.mul_add_mod];exact Nat.mod_eq_of_lt hj
 rw[h1,h2];congr 1;have:=(zg.1 hi).2;simp[hil,this]
theorem Z5D{P:Program}{T:qg}{ρ:Ren}{J:Type}[Inhabited J](hT:ux P T)(L:SlLaysF0.n6 P ρ)(L':SlLaysF0.n6 P ρ){enc:J->List Value}{k:Nat}{row:J->List SV}{g:FuncId}{cf:J->J->Int}
 (aE:∀w,(isAgg (ρ.t 24)).run P w= .ok true w) (zE:∀w,(Go.sizeOf (ρ.t 24)).run P w= .ok k w) (hk:∀x,(enc x).length=k/\(row x).length=k) (Cw:0<k) (hO:SWO (ltOf cf)) (hTo:∀x y,(ltOf cf) x y=false->(ltOf cf) y x=false->x=y)
 (ny:T.qS.all (fun p=>sG p.2)=true) (hc:∀x y,vW P T g 0 [.agg (row x), .agg (row y)] [] [] (wF (.int .i64 (cf x y)))) (eg:∀args w,(callFunc g args).run P w= .ok (.enter g args) w) (ef:∀args w,(callFunc (ρ.f 6) args).run P w= .ok (.enter (ρ.f 6) args) w)
 (hrow:∀K x,vX K (row x) (enc x)/\∀u∈enc x,u.oneCell'=true) (KR:∀K x vs,vX K (row x) vs->vs=enc x) (l:List J) (hl:l.length<4611686018427387904):
 vW P T (ρ.f 6) 1 [.sl (.loc 0) 0 k l.length none, .fn (.func g) [] []] [(0, .rows k (l.map row))] [] (fun r O nx=>r= .uI []/\O=[(0, .rows k ((l.mergeSort fun x y=>!(ltOf cf) y x).map row))]/\nx=1):=by
 refine⟨fun M vs hP dw hF hS H hd=> .inl ⟨ρ.f 6,by rw[hP];exact ef _ _,?_⟩⟩;obtain⟨P',⟨T',N',S',aO⟩,w0,F,η0,od⟩:=M;simp only at hP dw hF hS H hd⊢;subst hP dw;simp only[vX]at hd;obtain⟨v,us,rfl,hv,f,us',rfl,hf,rfl⟩:=hd;simp only[Den]at hf;obtain⟨ff,fc,rfl,KU,sI⟩:=hf;simp only[vX]at KU sI;subst KU sI;have uc:=(H.own.1 0 _ rfl).1
 have tE:∀g h,u6 g T'.qS=some h->vV [] w0 false (.uM g) h/\g<w0.heap.size:=by
  intro g' h hh;have hp:JU h=true:=zN.1 T'.dK _ (Uk hh);have h1:=H.shared (b:= .uM g') hh;refine⟨h1.plain hp,h1.uL ⟨⟨g',0,0⟩,rfl, .inl rfl⟩⟩
 simp only[vV,Env.get]at uc;simp only[Den,Env.get]at hv
 have fin:∀w' (O':u0),jw w0 w' F->vV η0 w' true (.loc 0) (.rows k ((l.mergeSort fun x y=>!(ltOf cf) y x).map row))->
  ∃r O' vZ η',(r=SV.uI []/\O'=[(0,Hp.rows k ((l.mergeSort fun x y=>!(ltOf cf) y x).map row))]/\vZ=1)/\η0<+:η'/\vU ⟨P',⟨T',N',S',aO⟩,w0,F,η0,od⟩ η' w' O' vZ/\Den η' r (.tuple #[]):=by
  intro w' O' hfr hs;refine⟨_,_,_,η0,⟨rfl,rfl,rfl⟩,zx,⟨H.pre,H.len,⟨fun i h hi=>?_,fun i j h h' k hi hj hij f f'=>?_⟩,hfr,H.wH⟩,?_⟩
  .rw[Z6]at hi;split at hi
   .rename_i e;subst e;injection hi with hi;subst hi;refine⟨hs,fun n f=>(H.own.1 0 _ rfl).2 n ?_⟩;obtain⟨e,h1,h2⟩:=f;exact⟨e,h1,h2⟩
   simp[u6]at hi
  .rw[Z6]at hi hj;split at hi
   .rename_i e;subst e;split at hj
    rename_i e2;exact(hij e2.symm).elim;simp[u6]at hj
   simp[u6]at hi
  simp only[Den,vX];exact⟨[],rfl,rfl⟩
 rcases uc with⟨hn,hnil⟩|⟨e,arr,Tt,fz,he,hheap,hown,hcells⟩
 ·
  have hl0:l=[]:=by simpa using hnil
  subst hl0
  have KV:v= .slice none 0 0:=by
   rcases hv with⟨_,h,_⟩|⟨e,o,h,_⟩
   exact h;rw[hn]at h;cases h
  subst KV;refine(AnyF.slices_SortFunc_none L' none 0 _ w0).mono ?_;rintro e w' ⟨rfl,rfl⟩;refine⟨_,rfl,fin _ [] (jw.refl _ _) ?_⟩;simp only[vV,Env.get];exact .inl ⟨hn,by simp⟩
 .obtain⟨hun,hsz,hle,hb0⟩:=hown trivial
  obtain⟨hel,tF⟩:l.length<=e.cap/\v= .slice (some ⟨e.g,0,none⟩) l.length e.cap:=by
   rcases hv with⟨h,_⟩|⟨e',o,h,h2,h3,h4,h5⟩
   rw[he]at h;cases h
   .rw[he]at h;cases h;simp only[Option.getD_none,zw,Nat.sub_zero]at h2 h3;have:=h5 (.inr trivial);rw[hb0]at this;simp only[yQ,Nat.add_zero]at this;subst this;exact⟨h3,h2⟩
  subst tF;have hblk:e.g<w0.heap.size:=(zC.1 hheap).1
  have hcell:∀(i:Nat) (x:J) (j:Nat),l[i]?=some x->j<k->arr[i*k+j]?=some (enc x)[j]!:=by
   intro i x j hi hj;obtain⟨h1,h2⟩:=hcells i (row x) (by rw[z7,hi];rfl);have hlen:=(hk x).2;have sD:=(hk x).1
   have hall:∀(j:Nat) (c:SV),(row x)[j]?=some c->∃u,((List.range k).map fun j=>arr.getD (i*k+j) undef)[j]?=some u/\Den η0 c u:=by
    intro j c hj;have hjk:j<k:=by have:=(zg.1 hj).1;omega
    obtain⟨u,h3,h4,h5⟩:=h2 j c hj;rw[hb0,zw]at h3;refine⟨u,?_,h5⟩;rw[z7,yz hjk];simp only[Option.map_some,y5,h3,Option.getD_some]
   have hvs:=KR η0 x _ (WA (by simp[hlen]) hall);have Fx:j< (row x).length:=by omega
   obtain⟨u,h3,h4,h5⟩:=h2 j ((row x)[j]) (z1 Fx);rw[hb0,zw]at h3
   have h6:(enc x)[j]! =u:=by
    rw[<-hvs]
    have:((List.range k).map fun j=>arr.getD (i*k+j) undef)[j]?=some u:=by
     rw[z7,yz hj];simp only[Option.map_some,y5,h3,Option.getD_some]
    rw[List.getElem!_eq_getElem?_getD,this];rfl
   rw[h3,h6]
  have split:∀t,t<l.length*k->∃x,l[t/k]?=some x/\t%k<k/\t/k*k+t%k=t:=by
   intro t ht;have h1:t/k<l.length:=Nat.div_lt_of_lt_mul (by rw[vw];exact ht);exact⟨l[t/k],z1 h1,Nat.mod_lt _ Cw,by rw[vw];exact Nat.div_add_mod t k⟩
  have hsize:l.length*k<=arr.size:=by rw[hsz];exact yl _ hel
  have hH:HoldsK enc k w0 e.g 0 l.toArray:=by
   intro t ht;rw[size_flatK,yc]at ht;obtain⟨x,h1,h2,h3⟩:=split t ht;have h4:=hcell _ x _ h1 h2;have h5:=(MI (enc:=enc) (fun x=>(hk x).1) h1 h2).1;rw[h3]at h4 h5;refine⟨by rw[zw,Hf hheap,h4,h5];rfl,?_⟩;have:=hun t (by omega);simp only[World.frozen?,hheap,zw];simpa using this
  have hFg:F e.g:=by
   rcases(H.own.1 0 _ rfl).2 e.g ⟨e,he, .inl rfl⟩with h|h
   exact h
   .have h:w0.heap.size<=e.g:=h;omega
  have fL:CmpLays P' g #[] enc k cf e.g 0 l.toArray.size w0:=Zb5 ny (fun h hh=>(H.wH (.uM e.g) h hh).2 e.g ⟨⟨e.g,0,0⟩,rfl, .inl rfl⟩|>.2 hFg) hc eg (fun K x=>hrow K x) tE;have hmain:=AnyQ.slices_SortFunc_total L k aE zE enc (fun x=>(hk x).1) (fun x u hu=>(hrow [] x).2 u hu) cf hO g #[] e.g 0 e.cap l.toArray w0 eg fL hH hblk (by simpa using hl) hTo;rw[yc]at hmain;refine hmain.mono ?_;rintro e1 w' ⟨rfl,n,os,rfl⟩;refine⟨_,rfl,fin _ [] ?_ ?_⟩
  .refine⟨rfl,rfl,rfl,?_,Ut ..,fun b hb KW=>U8 enc k w0 e.g 0 n _ os hb (fun e=>KW (e▸hFg))⟩;simp[sortWorldK,grow,putRowK,putRow,mapBlock,Sort.ahead]
  .simp only[vV,Env.get];have fZ:(l.mergeSort fun x y=>!(ltOf cf) y x).length=l.length:=yE l;refine .inr ⟨e,_,Tt,fz,he,Z4d enc k w0 e.g 0 n _ os hheap,fun _=>⟨?_,?_,?_,hb0⟩,fun i bh hi=>?_⟩;simp only[putCells,xo];exact hun;simp only[putCells,xo];exact hsz;rw[zj,fZ];exact hel
   .rw[z7]at hi;obtain⟨x,hx,rfl⟩:=zH.1 hi;refine⟨(hk x).2,fun j sv hj=>?_⟩;have hjk:j<k:=by have:=(zg.1 hj).1;have:=(hk x).2;omega
    obtain⟨h5,h6⟩:=MI (enc:=enc) (fun x=>(hk x).1) hx hjk;rw[fZ]at h6;obtain⟨u,h7,h8⟩:=Xo (hrow η0 x).1 hj;refine⟨u,?_,(hrow η0 x).2 u (y8 h7),h8⟩;have hlt:i*k+j<arr.size:=by omega
    rw[hb0,zw];simp only[putCells,vA,yM hlt,Option.map_some,x8,v7,zw,size_flatK,yc,fZ,h6,yH,Nat.sub_zero];rw[h5,List.getElem!_eq_getElem?_getD,h7]
    rfl
end Go.Sx
namespace Go.Sx
open Go
def Mx.at(M:Mx)(N:Nat)(ro:Option (Nat×Nat))(J:Env):Mx:=⟨M.P,⟨M.C.T,N,M.C.S,ro⟩,M.w0,M.F,J,none⟩
def l5(M:Mx)(res:List ResultVar)(K:SV->u0->Nat->Prop):Post
 | .normal,fr,O,nx=>mq fr O fun O=>Wb M.C fr O res fun vs=>K (mo vs) O nx
 | .ret,fr,O,nx=>mq fr O fun O=>Wb M.C fr O res fun vs=>K (mo vs) O nx
 | .exit _,_,_,_=>uE "exit"
def KX:List Nat->List SV->Fr->(Fr->Prop)->Prop
 | [],nA,fr,K=>match nA with
   | []=>match sZ (u6 DS fr)with
     |true=>uE "round"
     |false=>K fr
   |_::_=>uE "round"
 |p::ps,nA,fr,K=>match nA with
  |a::nA=>KX ps nA ((p,a)::fr) K
  | []=>uE "round"
def Cy(j:Nat)(K:SV->u0->Nat->Prop):Post:=fun e fr O nx=>match u6 j O with
 |some h=>match h with
  | .lp st li jq=>match st with
    | .busy=>match e with
      | .normal=>me j (.lp .ready li jq) O fun O=>K (.bool true) O nx
      | .ret=>me j (.lp (.left none) li jq) O fun O=>K (.bool false) O nx
      | .exit id=>me j (.lp (.left (some id)) li jq) O fun O=>K (.bool false) O nx
    |_=>uE "record"
  |_=>uE "record"
 |none=>uE "record"
def MJ(M:Mx)(j:Nat)(body:Code)(K:SV->u0->Nat->Prop):Post:=fun e fr O nx=>match e with
 | .normal=>match u6 j O with
   |some h=>match h with
    | .lp st li jq=>match st with
      | .ready=>me j (.lp .busy li jq) O fun O=>run M body fr O nx (Cy j K)
      |_=>uE "record"
    |_=>uE "record"
   |none=>uE "record"
 |_=>uE "assignment"
def nB:Fr->(Fr->Prop)->Prop
 | [],K=>K []
 |(t,v)::r,K=>match Nat.beq t DS with
  |true=>nB r K
  |false=>nB r fun r=>K ((t,v)::r)
def Hg(fr:Fr)(d:Nat)(K:Fr->Prop):Prop:=match u6 DS fr with
 |some v=>match v with
  | .jQ l=>K ((DS, .jQ (.ptr (.loc d) 0 0 0::l))::fr)
  |_=>K ((DS, .jQ [.ptr (.loc d) 0 0 0])::fr)
 |none=>K ((DS, .jQ [.ptr (.loc d) 0 0 0])::fr)
def Cz(j:Nat)(tG:(Fr->Prop)->Prop)(Q:Post):SV->u0->Nat->Prop:=fun _ O nx=>match u6 j O with
 |some h=>match h with
  | .lp st _ _=>match st with
    | .ready=>oV j O fun O=>tG fun fr=>Q .normal fr O nx
    | .busy=>uE "record"
    | .left jump=>match jump with
      |none=>oV j O fun O=>tG fun fr=>Q .ret fr O nx
      |some id=>oV j O fun O=>tG fun fr=>Q (.exit id) fr O nx
  |_=>uE "record"
 |none=>uE "record"
section
variable {M:Mx}{J:Env}{w:World}{O:u0}{nx:Nat}
theorem mc.longer(h:mc M){J:Env}(hp:M.η0<+:J){N:Nat}{ro:Option (Nat×Nat)}:mc (M.at N ro J):=by
 intro b hh hb;have hb':bM M.C b=some hh:=by cases b<;>exact hb
 obtain⟨h1,h2⟩:=h b hh hb';obtain⟨x,hx,_⟩:=h1.lt;exact⟨h1.mono hp,fun k f=>h2 k (u5.less hp hx f)⟩
theorem vU.at(H:vU M J w O nx){N:Nat}{ro:Option (Nat×Nat)}:vU (M.at N ro J) J w O nx:=⟨zx,H.len,H.own,H.fr,H.wH.longer H.pre⟩
theorem vU.back{η0:Env}{N:Nat}{ro:Option (Nat×Nat)}(H:vU (M.at N ro η0) J w O nx)(hp:M.η0<+:η0)(hs:mc M):vU M J w O nx:=⟨hp.trans H.pre,H.len,H.own,H.fr,hs⟩
theorem MK(hT:ux M.P M.C.T){g:FuncId}{fn:Func}{c:Code}(hf:M.P.funcs[g]?=some fn)(hb:fn.body=some c)(N:Nat)(hN:fn.ntmps=N)(gM:N<=DS){args:List SV}(hlen:args.length<=N){res:List ResultVar}(hres:fn.results=res.toArray)
 {K:SV->u0->Nat->Prop} {vs:List Value} (H:vU M J w O nx) (hd:vX J args vs) (h:run (M.at N none J) c (XU 0 args) O nx (l5 (M.at N none J) res K))
 {R:Ending->World->Prop} (hR:∀v r w' O' vZ η',J<+:η'->vU M η' w' O' vZ->Den η' r v->K r O' vZ->R (.returned v) w'):Calls M.P g ⟨vs⟩ w R:=by
 have hl:=ZL hd;refine callsIn_wide (n:=0)|>.1 (callsIn_of_wp_marks hf hb trivial ?_)
 have hm:u7 (M.at N none J) J (XU 0 args) O nx {tmps:=⟨vs⟩++Array.replicate (fn.ntmps-(Array.mk vs).size) undef,defers:=[]} w:=by
  refine⟨H.at,?_,gM,Ko (zK hlen gM),(fun l j h=>by cases h),?_⟩
  .simp only[xT,xV,hN,yc];show vs.length+(N-vs.length)=N
   omega
  .intro t sv ht;obtain⟨v,_,h1,h2⟩:=UL hd ht;have hlt:=(zg.1 h1).1;simp only[Nat.sub_zero]at h1 hlt;rw[y5,ya (by simpa using hlt)];have:(Array.mk vs)[t]?=some v:=by simpa using h1
   rw[this];exact h2
 refine Code.wpIn_mono ?_ (ZX (M:=M.at N none J) hT c h J _ w hm)
 have fin:∀{η1:Env} {qh:Fr} {O1:u0} {qp:Nat} {a:Act} {w1:World},u7 (M.at N none J) η1 qh O1 qp a w1->(mq qh O1 fun O1=>Wb (M.at N none J).C qh O1 res fun vs=>K (mo vs) O1 qp)->
  LeavesInM Fence.wide 0 M.P fn a.tmps R a.defers .returning w1:=by
  intro η1 qh O1 qp a w1 wz hr;exact C1 (M:=M.at N none J) hT hres wz hr fun w2 O2 v r H2 hd2 hk=>hR v r w2 O2 qp η1 H2.pre (H2.back H.pre H.wH) hd2 hk
 intro e a w hq;cases e with
 |normal=>obtain⟨η1,qh,O1,qp,wz,hq⟩:=hq;exact fin wz hq
 |ret=>obtain⟨η1,qh,O1,qp,wz,hq⟩:=hq;exact fin wz hq
 |exit id=>obtain⟨η1,qh,O1,qp,wz,hq⟩:=hq;exact hq.out.elim
 |goto l=>exact hq.elim
 |panic ch=>obtain⟨_,_,hn,_⟩:=hq;cases hn
 |outgrown=>exact hq.elim
theorem CALL.inline(hT:ux M.P M.C.T){f g:FuncId}{fn:Func}{c:Code}{args:List SV}{K:SV->u0->Nat->Prop}(qf:∀args w,(callFunc f args).run M.P w= .ok (.enter g args) w)(hf:M.P.funcs[g]?=some fn)(hb:fn.body=some c)(N:Nat)(hN:fn.ntmps=N)
 (hlen:Nat.ble args.length N=true) (res:List ResultVar) (hres:fn.results=res.toArray) (h:∀η0:Env,η0.length=nx->run (M.at N none η0) c (XU 0 args) O nx (l5 (M.at N none η0) res K)) (gM:Nat.ble N DS=true:=by rfl):CALL M f args O nx K:=
 ⟨fun J w vs H hd=> .inl ⟨g,qf _ _,MK hT hf hb N hN (zP gM) (zP hlen) hres H hd (h J H.len) fun v r w' O' vZ η' hp H' hd' hk=>⟨v,rfl,r,O',vZ,η',hp,H',hd',hk⟩⟩⟩
def V1:List Nat->List Value->Array Value->Array Value
 |p::ps,v::vs,t=>V1 ps vs (t.setIfInBounds p v)
 |_,_,t=>t
theorem Z76:∀(ps:List Nat) (vs:List Value) (t:Array Value),((ps.toArray.zip ⟨vs⟩).foldl (fun tmps (p:Nat×Value)=>tmps.setIfInBounds p.1 p.2) t)=V1 ps vs t:=by
 intro ps vs t;have h1:(ps.toArray.zip ⟨vs⟩:Array (Nat×Value))=(ps.zip vs).toArray:=by simp
 rw[h1,<-Array.foldl_toList];simp only
 induction ps generalizing vs t with
 |nil=>simp[V1]
 |cons p ps ih=>
  cases vs with
  |nil=>simp[V1]
  |cons v vs=>
   simp only[List.zip_cons_cons,List.foldl_cons,V1];exact ih vs (t.setIfInBounds p v) (by simp)
theorem ML:∀(ps:List Nat) (vs:List Value) (t:Array Value),(V1 ps vs t).size=t.size
 | [],vs,t=>by simp[V1]
 |p::ps,[],t=>by simp[V1]
 |p::ps,v::vs,t=>by simp only[V1];rw[ML ps vs];simp
theorem MM{J:Env}:∀{ps:List Nat} {nA:List SV} {fr:Fr} {K:Fr->Prop} {vs:List Value} {t:Array Value},KX ps nA fr K->vX J nA vs->qL J t fr->(∀p∈ps,p<t.size)->∃fr',K fr'/\sZ (u6 DS fr')=false/\qL J (V1 ps vs t) fr'/\vs.length=ps.length
 | [],nA,fr,K,vs,t,h,hd,ht,hp=>by
   simp only[KX]at h;split at h
   .split at h
    exact h.out.elim
    .rename_i hn;simp only[vX]at hd;subst hd;exact⟨fr,h,hn,ht,rfl⟩
   exact h.out.elim
 |p::ps,nA,fr,K,vs,t,h,hd,ht,hp=>by
  simp only[KX]at h;split at h
  .rename_i a nA;simp only[vX]at hd;obtain⟨u,us,rfl,h1,h2⟩:=hd;have hpt:=hp p (zF ..)
   obtain⟨fr',h3,h4,h5,h6⟩:=MM (t:=t.setIfInBounds p u) h h2 (fun s sv hs=>by
    rw[Z6]at hs;split at hs
    .rename_i e;subst e;injection hs with hs;subst hs
     simpa[y5,yT,hpt]using h1
    .rename_i e;rw[y5,yT,z6 (yO e),<-y5]
     exact ht s sv hs) (fun q hq=>by rw[Array.size_setIfInBounds];exact hp q (zG _ hq))
   exact⟨fr',h3,h4,h5,by simp[h6]⟩
  exact h.out.elim
theorem vU.record(H:vU M J w O nx){j:Nat}{st st':aY}{li:mH}{jq:Fr}(hj:u6 j O=some (.lp st li jq)){e:qJ}(he:J[j]?=some (some e)):
 ∃r,w.heap[e.g]?=some (.loop r)/\r.state=st.state/\r.pending=st.jump/\∀r':Loop,r'.state=st'.state->r'.pending=st'.jump->r'.params=r.params->r'.assign=r.assign->r'.body=r.body->r'.tmps=r.tmps->vU M J (w.putObj e.g (.loop r')) (uO j (.lp st' li jq) O) nx:=by
 have hs:=(H.own.1 j _ hj).1;simp only[vV]at hs;obtain⟨e',r,h1,h2,h3,h4,h5,h6,h7,h8,h9,h10⟩:=hs;have jo:J[j]?=some (some e'):=h1;rw[he]at jo;injection jo with jo;injection jo with jo;subst jo;have hlt:=(zC.1 h3).1;refine⟨r,h3,h4,h5,fun r' q1 q2 q3 q4 q5 q6=>?_⟩;refine H.jK hj he (fun k hk=>World.putObj_heap_other hk) World.putObj_size rfl rfl rfl ?_;simp only[vV];exact⟨e,r',h1,h2,World.putObj_heap_same hlt,q1,q2,by rw[q3];exact h6,by rw[q4];exact h7,by rw[q5];exact h8,by rw[q6];exact h9,by rw[q6];exact h10⟩
theorem fO.of(hT:ux M.P M.C.T){j:Nat}{li:mH}{jq:Fr}{args:List SV}{K:SV->u0->Nat->Prop}(hj:u6 j O=some (.lp .ready li jq))(hps:li.ps.all (fun p=>Nat.blt p li.N)=true)(gM:Nat.ble li.N DS=true)
 (h:∀(η1:Env) (l:Nat),η1.length=nx->KX li.ps args jq fun fr=>run (M.at li.N (some (l,j)) η1) li.eD fr O nx (MJ (M.at li.N (some (l,j)) η1) j li.body K)):fO M j args O nx K:=by
 refine⟨fun J w vs e H hd he=>?_⟩;obtain⟨r,hr,hst,hpe,_⟩:=H.record (st':= .ready) hj he;have hs:=(H.own.1 j _ hj).1;simp only[vV]at hs;obtain⟨e',r',h1,h2,h3,h4,h5,h6,h7,h8,h9,h10⟩:=hs;have jo:J[j]?=some (some e'):=h1;rw[he]at jo;injection jo with jo;injection jo with jo;subst jo;rw[hr]at h3;injection h3 with h3;injection h3 with h3;subst h3;obtain⟨fr,hrun,hnd,Hh,hlen⟩:=MM (h J e.g H.len) hd h10 (fun p hp=>by rw[h9];simpa[yU]using zN.1 hps p hp);have bN:r.params=li.ps.toArray:=by rw[<-h6]
 refine⟨r.fn,_,r.assign,r.body,run_yield hr (by rw[bN];simpa using hlen),?_⟩;rw[h7,h8];have aI:((r.params.zip ⟨vs⟩).foldl (fun tmps (x:Nat×Value)=>tmps.setIfInBounds x.1 x.2) r.tmps)=V1 li.ps vs r.tmps:=by rw[bN];exact Z76 li.ps vs r.tmps
 have tH:((r.params.zip ⟨vs⟩).foldl (fun tmps x=>match x with|(t,a)=>tmps.setIfInBounds t a) r.tmps)=V1 li.ps vs r.tmps:=aI;rw[tH];generalize l6:M.at li.N (some (e.g,j)) J=Mr at hrun;have MN:ux Mr.P Mr.C.T:=by subst l6;exact hT
 have hpx:Mr.px=none:=by subst l6;rfl
 have hPr:Mr.P=M.P:=by subst l6;rfl
 have hfr:Mr.uq=Fence.wide.inRound e.g:=by subst l6;rfl
 have hm:u7 Mr J fr O nx {tmps:=V1 li.ps vs r.tmps,defers:=[]} w:=by
  subst l6;refine⟨H.at,by rw[ML];exact h9,zP gM,(qU.no hnd).2 rfl,fun l' j' hl=>?_,Hh⟩;injection hl with hl;injection hl with kZ o9;subst kZ o9;exact⟨e,he,rfl⟩
 refine roundIn_of_wpIn trivial ?_;rw[<-hPr,<-hfr];refine Code.wpIn_mono ?_ (ZX MN li.eD hrun J _ w hm);intro ex a1 w1 hq;cases ex with
 |exit id=>obtain⟨η1,qh,O1,qp,wz,hq⟩:=hq;exact hq.out.elim
 |ret=>obtain⟨η1,qh,O1,qp,wz,hq⟩:=hq;exact hq.out.elim
 |goto l=>exact hq.elim
 |panic ch=>obtain⟨_,_,hn,_⟩:=hq;rw[hpx]at hn;cases hn
 |outgrown=>exact hq.elim
 |normal=>
  obtain⟨η1,qh,O1,qp,wz,hq⟩:=hq;simp only[MJ]at hq;split at hq
  case h_2=>exact hq.out.elim
  rename_i hh hj1;split at hq
  case h_2=>exact hq.out.elim
  rename_i st1 li1 CA;split at hq
  case h_2=>exact hq.out.elim
  rw[Ja]at hq;obtain⟨e1,he1,heg⟩:=wz.ro e.g j (by subst l6;rfl);obtain⟨r1,tI,hs1,hp1,KY⟩:=wz.heap.record (st':= .busy) hj1 he1;rw[heg]at tI KY;refine⟨_,run_beginRound tI hs1,?_⟩;have hm2:u7 Mr η1 qh (uO j (.lp .busy li1 CA) O1) qp a1 (w1.putObj e.g (.loop {r1 with state:= .busy})):=⟨KY _ rfl hp1 rfl rfl rfl rfl,wz.size,wz.fN,wz.defers,wz.ro,wz.frame⟩;refine Code.wpIn_mono ?_ (ZX MN li.body hq η1 a1 _ hm2)
  have fin:∀{ex:Ex} {η2:Env} {fK:Fr} {O2:u0} {oq:Nat} {a2:Act} {w2:World} (jump:Option Code),u7 Mr η2 fK O2 oq a2 w2->Cy j K ex fK O2 oq->(match ex with| .normal=>jump=none| .ret=>jump=some .ret| .exit id=>jump=some (.exit id))->
   ∃v w',(Instr.endRound e.g jump).run Mr.P w2= .ok v w'/\∃v',Ending.returned v= .returned v'/\∃r O' vZ η',J<+:η'/\vU M η' w' O' vZ/\Den η' r v'/\K r O' vZ:=by
   intro ex η2 fK O2 oq a2 w2 jump hm2 hq hj';unfold Cy at hq;split at hq
   case h_2=>exact hq.out.elim
   rename_i hh hj2;split at hq
   case h_2=>exact hq.out.elim
   rename_i st2 li2 z2C;split at hq
   case h_2=>exact hq.out.elim
   obtain⟨e2,Qf,tJ⟩:=hm2.ro e.g j (by subst l6;rfl);have hpre:J<+:η2:=by have:=hm2.heap.pre;subst l6;exact this
   have back:∀{w':World} {O':u0},vU Mr η2 w' O' oq->vU M η2 w' O' oq:=fun h=>by subst l6;exact h.back H.pre H.wH
   cases ex with
   |normal=>
    simp only at hj';subst hj';simp only[Ja]at hq;obtain⟨r2,rF,hs2,hp2,bw⟩:=hm2.heap.record (st':= .ready) hj2 Qf;rw[tJ]at rF bw;exact⟨_,_,run_endRound none rF,_,rfl, .bool true,_,_,η2,hpre,back (bw _ rfl rfl rfl rfl rfl rfl),(by simp only[Den];rfl),hq⟩
   |ret=>
    simp only at hj';subst hj';simp only[Ja]at hq;obtain⟨r2,rF,hs2,hp2,bw⟩:=hm2.heap.record (st':= .left none) hj2 Qf;rw[tJ]at rF bw;exact⟨_,_,run_endRound (some .ret) rF,_,rfl, .bool false,_,_,η2,hpre,back (bw _ rfl rfl rfl rfl rfl rfl),(by simp only[Den];rfl),hq⟩
   |exit id=>
    simp only at hj';subst hj';simp only[Ja]at hq;obtain⟨r2,rF,hs2,hp2,bw⟩:=hm2.heap.record (st':= .left (some id)) hj2 Qf;rw[tJ]at rF bw;exact⟨_,_,run_endRound (some (.exit id)) rF,_,rfl, .bool false,_,_,η2,hpre,back (bw _ rfl rfl rfl rfl rfl rfl),(by simp only[Den];rfl),hq⟩
  intro ex a2 w2 bO;cases ex with
  |normal=>obtain⟨η2,fK,O2,oq,hm2,bO⟩:=bO;exact fin none hm2 bO rfl
  |ret=>obtain⟨η2,fK,O2,oq,hm2,bO⟩:=bO;exact fin (some .ret) hm2 bO rfl
  |exit id=>obtain⟨η2,fK,O2,oq,hm2,bO⟩:=bO;exact fin (some (.exit id)) hm2 bO rfl
  |goto l=>exact bO.elim
  |panic ch=>obtain⟨_,_,hn,_⟩:=bO;rw[hpx]at hn;cases hn
  |outgrown=>exact bO.elim
theorem CB{K:Fr->Prop}:∀{fr:Fr},nB fr K->∃jq,K jq/\u6 DS jq=none/\∀t v,u6 t jq=some v->u6 t fr=some v
 | [],h=>⟨[],h,rfl,fun t v h=>h⟩
 |(d,u)::r,h=>by
  unfold nB at h;split at h
  .rename_i e;have e:=Zq e;obtain⟨jq,h1,h0,h2⟩:=CB h;refine⟨jq,h1,h0,fun t v ht=>?_⟩;rw[Z6];split
   .rename_i e2;rw[e2,e,h0]at ht;cases ht
   exact h2 t v ht
  .rename_i e;have e:=Jb e;obtain⟨jq,h1,h0,h2⟩:=CB h;refine⟨(d,u)::jq,h1,by rw[Z6,z6 (yO e)];exact h0,fun t v ht=>?_⟩;rw[Z6]at ht⊢;split
   rename_i e;rw[z8 e]at ht;exact ht;rename_i e;rw[z6 e]at ht;exact h2 t v ht
theorem Zb6(hT:ux M.P M.C.T){gf g:FuncId}{fn:Func}{c:Code}{cap:List SV}(qf:∀args w,(callFunc gf args).run M.P w= .ok (.enter g args) w)(hf:M.P.funcs[g]?=some fn)(hb:fn.body=some c)(N:Nat)(hN:fn.ntmps=N)(gM:N<=DS)(hlen:cap.length+1<=N)(hres:fn.results= #[])
 {f:Operand} {Q:Post} {a a':Act} {η1:Env} {w1:World} {O1:u0} {n1 j l:Nat} (rG:∃vs,a.eval f= .func (.func gf) #[] ⟨vs⟩/\vX η1 cap vs) (H1:vU M η1 w1 O1 n1) (hj:η1[j]?=some (some ⟨l,0,0⟩)) {tG:(Fr->Prop)->Prop}
 (tK:∀{K:Fr->Prop},tG K->∃fr',K fr'/\∀η' w' O' vZ,η1<+:η'->vU M η' w' O' vZ->u7 M η' fr' O' vZ a' w')
 (h:run (M.at N none η1) c (XU 0 (.yf (.loc j)::cap)) O1 n1 (l5 (M.at N none η1) [] (Cz j tG Q))):
 ∃(d:Deferred) (KZ:World) (f':FuncId) (args:Array Value) (w2:World),(resolve a.eval (rangeCall f l) 0).run M.P w1= .ok d KZ/\(∀f',Target.leads M.P KZ d.target d.args=some f'->M.uq.fn f')/\(invoke d.target d.args).run M.P KZ= .ok (.enter f' args) w2/\
  (M.uq.depth.isSome=true->1<=0)/\CallsIn M.uq (0-1) M.P f' args w2 (rangePost M.uq 0 M.P l (iZ M Q) a'):=by
 obtain⟨vs,hv,hd⟩:=rG;refine⟨{target:= .fn (.func gf) ⟨vs⟩,args:= #[.func (.yield l) #[] #[]]},w1,g, #[.func (.yield l) #[] #[]]++⟨vs⟩,w1,?_,fun f' _=>M.all f',?_,(fun h=>by cases h),?_⟩
 .simp only[resolve,hv];simp[go_sem]
 simp[invoke,go_sem,qf]
 .have hargs:(#[.func (.yield l) #[] #[]]++(⟨vs⟩:Array Value))=⟨Value.func (.yield l) #[] #[]::vs⟩:=by apply yC;simp
  rw[hargs]
  have kU:vX η1 (.yf (.loc j)::cap) (Value.func (.yield l) #[] #[]::vs):=by
   simp only[vX,Den];exact⟨_,_,rfl,⟨_,hj,rfl⟩,hd⟩
  refine callsIn_wide.2 (MK hT hf hb N hN gM (by simpa using hlen) (by simpa using hres) H1 kU h fun v r w' O' vZ η' hp H' hd' hk=>?_);unfold Cz at hk;split at hk
  case h_2=>exact hk.out.elim
  rename_i hh hj';split at hk
  case h_2=>exact hk.out.elim
  rename_i st li jq;have oy:η'[j]?=some (some ⟨l,0,0⟩):=Env.ug (b:= .loc j) hp hj;obtain⟨r1,tI,hs1,hp1,_⟩:=H'.record (st':= .ready) hj' oy;obtain⟨s1,p1,c1,c2,c3,c4,c5,c6⟩:=r1;simp only at tI hs1 hp1;subst hs1 hp1;have nC:vU M η' (w'.putObj l (.loop {state:= .exhausted,pending:=st.jump,fn:=c1,tmps:=c2,params:=c3,assign:=c4,body:=c5,defers:=c6})) (wh j O') vZ:=H'.drop hj' oy (fun k hk=>World.putObj_heap_other (by rintro rfl;exact hk (u5.own (b:= .loc j) oy))) World.putObj_size rfl rfl rfl (zn _);split at hk
  .rw[XG]at hk;obtain⟨fr',h1,h2⟩:=tK hk;exact⟨_,_,run_endLoop tI (by simp[aY.state]),⟨η',fr',_,vZ,h2 η' _ _ _ hp nC,h1⟩⟩
  exact hk.out.elim
  .split at hk
   .rw[XG]at hk;obtain⟨fr',h1,h2⟩:=tK hk;exact⟨_,_,run_endLoop tI (by simp[aY.state]),wpIn_ret ⟨η',fr',_,vZ,h2 η' _ _ _ hp nC,h1⟩⟩
   .rw[XG]at hk;obtain⟨fr',h1,h2⟩:=tK hk;exact⟨_,_,run_endLoop tI (by simp[aY.state]),wpIn_exit ⟨η',fr',_,vZ,h2 η' _ _ _ hp nC,h1⟩⟩
theorem ZfL{fr:Fr}{d:Nat}{K:Fr->Prop}(h:Hg fr d K):∃l,K ((DS, .jQ (.ptr (.loc d) 0 0 0::l))::fr)/\∀{J:Env} {ds:List Deferred},qU J ds (u6 DS fr)->jh J l ds:=by
 unfold Hg at h;split at h
 .rename_i v hv;split at h
  .rename_i l;exact⟨l,h,fun hd=>by rw[hv]at hd;exact hd⟩
  .rename_i hn;refine⟨[],h,fun hd=>?_⟩;rw[hv]at hd;have:sZ (some v)=false:=by cases v<;>first|rfl|exact(hn _ rfl).elim
   rw[qU.no this]at hd;subst hd;rfl
 .rename_i hv;refine⟨[],h,fun hd=>?_⟩;rw[hv]at hd;have hd:_=[]:=hd;subst hd;rfl
theorem kg.of(hT:ux M.P M.C.T){f:Operand}{ps:Array Tmp}{eD body:Code}{fr:Fr}{Q:Post}{gf g:FuncId}{cap:List SV}{fn:Func}{c:Code}(qf:∀args w,(callFunc gf args).run M.P w= .ok (.enter g args) w)(hf:M.P.funcs[g]?=some fn)(hb:fn.body=some c)(N:Nat)(hN:fn.ntmps=N)
 (li:mH) (Qg:li=⟨M.C.N,ps.toList,eD,body⟩) (hv:Jx fr f=some (.fn (.func gf) [] cap)) (hlen:Nat.ble (cap.length+1) N=true) (hres:fn.results= #[]) (hro:M.C.ro=none)
 (h:nB fr fun jq=> ∀η1:Env,η1.length=nx+2->run (M.at N none η1) c (XU 0 (.yf (.loc (nx+1))::cap)) ((nx+1, .lp .ready li jq)::(nx, .gJ [])::O) (nx+2) (l5 (M.at N none η1) [] (Cz (nx+1) (Hg fr nx) Q))) (gM:Nat.ble N DS=true:=by rfl):kg M f ps eD body fr O nx Q:=by
 obtain⟨jq,h,_,sR⟩:=CB h;refine⟨fun J a w hm=>wpIn_rangeFunc fun CC _=>?_⟩;have tL:M.uq.round=none:=by simp[Mx.uq,hro]
 rw[tL];obtain⟨rec,G1⟩:∃rec:Loop,rec={state:= .ready,pending:=none,fn:=CC,tmps:=a.tmps,params:=ps,assign:=eD,body,defers:=w.heap.size}:=⟨_,rfl⟩;have hl:=hm.heap.len;obtain⟨η1,hη1⟩:∃η1:Env,η1=J++ [some ⟨w.heap.size,0,0⟩]:=⟨_,rfl⟩
 have H1:vU M η1 (w.alloc (.deferred (some []))) ((nx, .gJ [])::O) (nx+1):=by
  rw[hη1];refine hm.heap.alloc (w':=w.alloc (.deferred (some []))) (o:= .deferred (some [])) (h:= .gJ []) rfl rfl rfl rfl 0 0 ?_;simp only[vV];exact⟨⟨w.heap.size,0,0⟩,by simp[Env.get,<-hl],rfl,World.alloc_heap_new w _,(fun n hn=>nomatch hn),by simp⟩
 have kZ:=H1.len;obtain⟨η2,hη2⟩:∃η2:Env,η2=η1++ [some ⟨w.heap.size+1,0,0⟩]:=⟨_,rfl⟩;have hsz:(w.alloc (.deferred (some []))).heap.size=w.heap.size+1:=World.size_alloc _ _;have hpre:J<+:η2:=by rw[hη2,hη1,zR];exact zD _ _
 have hj2:η2[nx+1]?=some (some ⟨w.heap.size+1,0,0⟩):=by rw[hη2,<-kZ];simp
 have hd2:η2[nx]?=some (some ⟨w.heap.size,0,0⟩):=by
  rw[hη2,zu (by omega),hη1,<-hl];simp
 have H2:vU M η2 ((w.alloc (.deferred (some []))).alloc (.loop rec)) ((nx+1, .lp .ready li jq)::(nx, .gJ [])::O) (nx+2):=by
  have:=H1.alloc (w':=(w.alloc (.deferred (some []))).alloc (.loop rec)) (o:= .loop rec) (h:= .lp .ready li jq) rfl rfl rfl rfl 0 0 (by
   rw[hsz,<-hη2];simp only[vV];refine⟨_,rec,hj2,rfl,by rw[<-hsz];exact World.alloc_heap_new _ _,?_⟩;subst G1 Qg
   exact⟨rfl,rfl,rfl,rfl,rfl,hm.size,fun t sv ht=>(hm.frame t sv (sR t sv ht)).mono hpre⟩)
  rw[hsz,<-hη2]at this;exact this
 have rG:∃vs,a.eval f= .func (.func gf) #[] ⟨vs⟩/\vX η2 cap vs:=by
  have:=Yn hm.frame hv;simp only[Den,vX]at this;obtain⟨us,vs,h1,rfl,h3⟩:=this;exact⟨vs,h1,h3.mono hpre⟩
 obtain⟨d,KZ,f',args,w2,q1,q2,q3,q4,q5⟩:=Zb6 (a':={a with defers:=[{target:= .collected w.heap.size,args:= #[]}]++a.defers}) hT qf hf hb N hN (zP gM) (zP hlen) hres rG H2 hj2 (tG:=Hg fr nx) (fun{K} hk=>by
  obtain⟨l,h1,h2⟩:=ZfL hk;refine⟨_,h1,fun η' w' O' vZ hp H'=>⟨H',hm.size,hm.fN,?_,VD (hpre.trans hp) hm.ro,fun t sv ht=>?_⟩⟩
  .rw[Z6,z8 rfl];exact⟨⟨w.heap.size,0,0⟩,a.defers,Env.ug (b:= .loc nx) hp hd2,rfl,h2 (hm.defers.mono (hpre.trans hp))⟩
  .rw[Z6]at ht;split at ht
   injection ht with ht;subst ht;simp only[Den]
   exact(hm.frame t sv ht).mono (hpre.trans hp)) (h η2 H2.len)
 refine⟨w.heap.size+1,[{target:= .collected w.heap.size,args:= #[]}],_,d,KZ,f',args,w2,run_enterLoop_outer _ _ _ _ _,?_,q2,q3,q4,q5⟩;rw[G1]at q1;exact q1
end
theorem u9.weak{M:Mx}{O O1:u0}{nx n1:Nat}{r r1:SV}{Q:SV->u0->Nat->Prop}(h:∀J w v,vU M J w O nx->Den J r v->∃η',J<+:η'/\vU M η' w O1 n1/\Den η' r1 v)(hf:u9 M O1 n1 r1 Q):u9 M O nx r Q:=
 ⟨fun J w v H hd=>let⟨η1,h1,h2,h3⟩:=h J w v H hd;hf.out η1 w v h2 h3⟩
theorem u9.nil{M:Mx}{O:u0}{nx:Nat}{Q:SV->u0->Nat->Prop}(es:Nat)(hf:u9 M ((nx, .rows es [])::O) (nx+1) (.sl (.loc nx) 0 es 0 none) Q):u9 M O nx (.val (.slice none 0 0)) Q:=by
 refine u9.weak (fun J w v H hd=>?_) hf;have hnew:(J++ [none])[nx]?=some none:=by rw[zz (by rw[H.len];omega),H.len];simp
 refine⟨J++ [none],zD _ _,H.push none (fun _ _=>rfl) (zn _) rfl rfl rfl (zn _) (.inl ⟨hnew,rfl⟩) (fun k f=>(u5.none (b:= .loc nx) hnew f).elim) (fun k f=>(u5.none (b:= .loc nx) hnew f).elim),?_⟩;simp only[Den]at hd⊢;exact .inl ⟨hnew,hd.1,trivial⟩
theorem u9.w9{M:Mx}{O:u0}{nx:Nat}{r:SV}{Q:SV->u0->Nat->Prop}(i j es:Nat){row row':List SV}(hi:u6 i O=some (.box row))(hr:nv nx es j row=some row')(hf:u9 M ((nx, .rows es [])::uO i (.box row') O) (nx+1) r Q):u9 M O nx r Q:=
 u9.weak (fun J w v H hd=>let⟨η',h1,h2⟩:=H.w9 hi hr;⟨η',h1,h2,Den.mono h1 hd⟩) hf
theorem u9.bz{M:Mx}{O:u0}{nx:Nat}{Q:SV->u0->Nat->Prop}(es:Nat){vs:List SV}(hf:u9 M ((nx, .rows es [])::O) (nx+1) (.uI (.sl (.loc nx) 0 es 0 none::vs)) Q):u9 M O nx (.uI (.val (.slice none 0 0)::vs)) Q:=by
 refine u9.weak (fun J w v H hd=>?_) hf;have hnew:(J++ [none])[nx]?=some none:=by rw[zz (by rw[H.len];omega),H.len];simp
 refine⟨J++ [none],zD _ _,H.push none (fun _ _=>rfl) (zn _) rfl rfl rfl (zn _) (.inl ⟨hnew,rfl⟩) (fun k f=>(u5.none (b:= .loc nx) hnew f).elim) (fun k f=>(u5.none (b:= .loc nx) hnew f).elim),?_⟩;simp only[Den,vX]at hd⊢;obtain⟨xs,h1,u,us,h2,h3,h4⟩:=hd;exact⟨xs,h1,u,us,h2, .inl ⟨hnew,h3.1,trivial⟩,h4.mono (zD _ _)⟩
end Go.Sx
namespace Go.Sx
open Go Go.Sort Go.Shelf Go.Proofs Go.Our
def Z9(s:List UInt8):List SV:=[.str s]
theorem Zt(l:List (List UInt8)):Zj (l.map Z9)=true:=ZN _ (fun _=>rfl) l
instance :bu Z9:=⟨fun _=>rfl⟩
theorem leS(x y:List UInt8):decide (x<=y)=wW cmpL x y:=by
 show decide (x<=y)=!decide (Lib.compareBytes y x<0)
 rw[<-Mp,Go.Proofs.bytesLess_eq];rw[yh];simp[List.not_lt]
theorem VV(w:World)(blk m:Nat)(d:Array (List UInt8))(os:Array Obj):(grow (putRow encStr (Sort.ahead w m) blk 0 d) os).heap=(mapBlock w blk (putCells encStr 0 d)).heap++os:=by simp[grow,putRow,mapBlock,Sort.ahead]
theorem Z5H(w:World)(blk m:Nat)(d:Array (List UInt8))(os:Array Obj):w.heap.size<=(grow (putRow encStr (Sort.ahead w m) blk 0 d) os).heap.size:=by
 rw[VV];simp[mapBlock]
theorem Z4e(w:World)(blk m:Nat)(d:Array (List UInt8))(os:Array Obj){g:Nat}(hg:g<w.heap.size)(hne:g≠blk):(grow (putRow encStr (Sort.ahead w m) blk 0 d) os).heap[g]?=w.heap[g]?:=by
 rw[VV,ya (by simpa[mapBlock]using hg)];simp only[mapBlock,y7];rw[z6 (fun h=>hne h.symm)]
theorem Z79(w:World)(blk m:Nat)(d:Array (List UInt8))(os:Array Obj){c:Array Value}{T:TypeId}{fz:Nat×Nat}(h:w.heap[blk]?=some (.cells c T fz)):(grow (putRow encStr (Sort.ahead w m) blk 0 d) os).heap[blk]?=some (.cells (putCells encStr 0 d c) T fz):=by
 have hlt:=(zC.1 h).1;rw[VV,ya (by simpa[mapBlock]using hlt)];simp only[mapBlock,y7,yH,h,Option.map_eq_map,Option.map_some,onCells]
theorem Z7a{P:Program}{T:qg}{ρ:Ren}(L:Lays.n190 P ρ)(ef:∀args w,(callFunc (ρ.f 190) args).run P w= .ok (.enter (ρ.f 190) args) w)(l:List (List UInt8))(hl:l.length<4611686018427387904):
 vW P T (ρ.f 190) 1 [.sl (.loc 0) 0 1 l.length none] [(0, .rows 1 (l.map Z9))] [] (fun r O nx=>r= .uI []/\O=[(0, .rows 1 ((l.mergeSort (wW cmpL)).map Z9))]/\nx=1):=by
 refine⟨fun M vs hP dw hF hS H hd=> .inl ⟨ρ.f 190,by rw[hP];exact ef _ _,?_⟩⟩;obtain⟨P',⟨T',N',S',aO⟩,w0,F,η0,od⟩:=M;simp only at hP dw hF hS H hd⊢;subst hP dw;simp only[vX]at hd;obtain⟨v,us,rfl,hv,rfl⟩:=hd;have uc:=(H.own.1 0 _ rfl).1;simp only[vV,Env.get]at uc;simp only[Den,Env.get]at hv
 have fin:∀w' (O':u0),jw w0 w' F->vV η0 w' true (.loc 0) (.rows 1 ((l.mergeSort (wW cmpL)).map Z9))->
  ∃r O' vZ η',(r=SV.uI []/\O'=[(0,Hp.rows 1 ((l.mergeSort (wW cmpL)).map Z9))]/\vZ=1)/\η0<+:η'/\vU ⟨P',⟨T',N',S',aO⟩,w0,F,η0,od⟩ η' w' O' vZ/\Den η' r (.tuple #[]):=by
  intro w' O' hfr hs;refine⟨_,_,_,η0,⟨rfl,rfl,rfl⟩,zx,⟨H.pre,H.len,⟨fun i h hi=>?_,fun i j h h' k hi hj hij f f'=>?_⟩,hfr,H.wH⟩,?_⟩
  .rw[Z6]at hi;split at hi
   .rename_i e;subst e;injection hi with hi;subst hi;refine⟨hs,fun n f=>(H.own.1 0 _ rfl).2 n ?_⟩;obtain⟨e,h1,h2⟩:=f;exact⟨e,h1,h2⟩
   simp[u6]at hi
  .rw[Z6]at hi hj;split at hi
   .rename_i e;subst e;split at hj
    rename_i e2;exact(hij e2.symm).elim;simp[u6]at hj
   simp[u6]at hi
  simp only[Den,vX];exact⟨[],rfl,rfl⟩
 rcases uc with⟨hn,hnil⟩|⟨e,arr,Tt,fz,he,hheap,hown,hcells⟩
 .have hl0:l=[]:=by simpa using hnil
  subst hl0
  have KV:v= .slice none 0 0:=by
   rcases hv with⟨_,h,_⟩|⟨e,o,h,_⟩
   exact h;rw[hn]at h;cases h
  subst KV;refine(Any.slices_Sort_string_none L none 0 w0).mono ?_;rintro e w' ⟨rfl,rfl⟩;refine⟨_,rfl,fin _ [] (jw.refl _ _) ?_⟩;simp only[vV,Env.get];exact .inl ⟨hn,by simp⟩
 .obtain⟨hun,hsz,hle,hb0⟩:=hown trivial
  obtain⟨hel,tF⟩:l.length<=e.cap/\v= .slice (some ⟨e.g,0,none⟩) l.length e.cap:=by
   rcases hv with⟨h,_⟩|⟨e',o,h,h2,h3,h4,h5⟩
   rw[he]at h;cases h
   .rw[he]at h;cases h;simp only[Option.getD_none,zw,Nat.sub_zero]at h2 h3;have:=h5 (.inr trivial);rw[hb0]at this;simp only[yQ,Nat.add_zero]at this;subst this;exact⟨h3,h2⟩
  subst tF;have hblk:e.g<w0.heap.size:=(zC.1 hheap).1;have hsize:l.length<=arr.size:=by rw[hsz];omega
  have hcell:∀(i:Nat) (x:List UInt8),l[i]?=some x->arr[i]?=some (encStr x):=by
   intro i x hi;obtain⟨h1,h2⟩:=hcells i (Z9 x) (by rw[z7,hi];rfl);obtain⟨u,h3,h4,h5⟩:=h2 0 (.str x) rfl;rw[hb0,zw,xI,Nat.add_zero]at h3;simp only[Den]at h5;rw[h3,h5];try rfl
  have hH:Holds encStr w0 e.g 0 l.toArray:=by
   intro t ht;rw[yc]at ht;have h4:=hcell t l[t] (z1 ht);refine⟨by rw[zw,Hf hheap,h4];simp[ht],?_⟩;have:=hun t (by omega);simp only[World.frozen?,hheap,zw];simpa using this
  have hFg:F e.g:=by
   rcases(H.own.1 0 _ rfl).2 e.g ⟨e,he, .inl rfl⟩with h|h
   exact h
   .have h:w0.heap.size<=e.g:=h;omega
  have hmain:=Any.slices_Sort_string L e.g 0 e.cap l w0 hH hblk hl;rw[show(fun x y:List UInt8=>decide (x<=y))=wW cmpL from funext fun x=>funext fun y=>leS x y]at hmain;refine hmain.mono ?_;rintro e1 w' ⟨rfl,n,os,rfl⟩;refine⟨_,rfl,fin _ [] ?_ ?_⟩
  .refine⟨rfl,rfl,rfl,?_,Z5H ..,fun b hb KW=>Z4e w0 e.g n _ os hb (fun e=>KW (e▸hFg))⟩;simp[grow,putRow,mapBlock,Sort.ahead]
  .simp only[vV,Env.get];have fZ:(l.mergeSort (wW cmpL)).length=l.length:=yE l;refine .inr ⟨e,_,Tt,fz,he,Z79 w0 e.g n _ os hheap,fun _=>⟨?_,?_,?_,hb0⟩,fun i bh hi=>?_⟩;simp only[putCells,xo];exact hun;simp only[putCells,xo];exact hsz;rw[zj,fZ];exact hel
   .rw[z7]at hi;obtain⟨x,hx,rfl⟩:=zH.1 hi;refine⟨rfl,fun j sv hj=>?_⟩;have hil:=(zg.1 hx).1
    match j,hj with
    |0,hj=>
     injection hj with hj;subst hj;refine⟨encStr x,?_,rfl,by simp only[Den];try rfl⟩;have hlt:i<arr.size:=by omega
     rw[hb0,zw,xI,Nat.add_zero];have mm:=(zg.1 hx).2;have tM:i<l.length:=by omega
     simp only[putCells,vA,yM hlt,Option.map_some,x8,v7,zw,yc,fZ,tM,yH,Nat.sub_zero];rw[Array.getElem!_eq_getD,y5];simp[hx]
end Go.Sx
namespace Go.Our
section
variable {K:Type}{c:K->K->Int}
end
theorem MT{l:List Qd}(h:∀k (hk:k<l.length),1<=k->ZJ (l[k-1]'(by omega)) l[k]<0):jr ZJ l:=by
 refine yR.2 fun i j hi hj hij=>?_
 induction j with
 |zero=>omega
 |succ j ih=>
  have h1:=h (j+1) hj (by omega);simp only[Nat.add_sub_cancel]at h1;rcases xM (Nat.le_of_lt_succ hij)with h2|rfl
  exact qO.lt_trans (ih (by omega) h2) (by omega);exact h1
end Go.Our
namespace Go.Sx
open Go
def G4:List Nat->u0->(u0->Prop)->Prop
 | [],_,K=>K []
 |i::is,O,K=>match u6 i O with
  |some h=>G4 is O fun r=>K ((i,h)::r)
  |none=>G4 is O K
def Qh:u0->u0->(u0->Prop)->Prop
 | [],r,K=>K r
 |(i,h)::l,r,K=>Qh l r fun r=>K ((i,h)::r)
theorem CH:∀{ts:List Nat} {O:u0} {K:u0->Prop},G4 ts O K->∃r,K r
 | [],O,K,h=>⟨_,h⟩
 |t::ts,O,K,h=>by
  simp only[G4]at h;split at h
  obtain⟨r,hr⟩:=CH h;exact⟨_,hr⟩;exact CH h
theorem MV:∀{l r:u0} {K:u0->Prop},Qh l r K<->K (l++r)
 | [],r,K=>xY
 |(t,v)::l,r,K=>by simp only[Qh,List.cons_append,MV]
theorem Zh{m es:Nat}{rs:List (List SV)}(h:Zj rs=true):Zp m (.rows es rs)=true:=by simp only[Zp,Zc _ h]
theorem Z7{m es:Nat}{σ:Nat->Nat}{rs:List (List SV)}(h:Zj rs=true):Zp m (uo σ (.rows es rs))=true:=by rw[Ze _ (h:= .rows es rs) h];exact Zh h
section
variable {M:Mx}{fr:Fr}{O:u0}{nx:Nat}
theorem ua.j5{body:Code}{Q:Post}(hT:ux M.P M.C.T)(ks ko:List Nat){X:Type}(P:X->Prop)(mV:X->Fr)(Ox:X->u0)(n0:Nat)(J:X->Nat)(x0:X)(hP:P x0)
 (h:Q9 ks fr fun jq=>G4 ko O fun O0=>(dW (mV x0) jq fun fr'=>Qh (Ox x0) O0 fun O'=>vY M fr O nx fr' O' n0)/\
   ∀x,P x->dW (mV x) jq fun qh=>Qh (Ox x) O0 fun O1=>run M body qh O1 n0 fun e fr O nx=>match e with
    | .normal=> ∃x',P x'/\J x'<J x/\dW (mV x') jq fun fr'=>Qh (Ox x') O0 fun O'=>vY M fr O nx fr' O' n0
    |e=>Q e fr O nx):ua M body fr O nx Q:=by
 obtain⟨jq,h⟩:=Ch h;obtain⟨O0,h1,h2⟩:=CH h;simp only[Ci,MV]at h1 h2;exact ua.inv hT P (fun x=>(mV x++jq,Ox x++O0,n0)) J x0 hP h1 h2
theorem ua.w9{body:Code}{Q:Post}(i j es:Nat){row row':List SV}(hi:u6 i O=some (.box row))(hr:nv nx es j row=some row')(k:ua M body fr ((nx, .rows es [])::uO i (.box row') O) (nx+1) Q):ua M body fr O nx Q:=
 ua.goes ⟨fun Y a w hm=>let⟨η',hp,H⟩:=hm.heap.w9 hi hr;⟨η',H,hm.size,hm.fN,hm.defers.mono hp,VD hp hm.ro,fun t v ht=>(hm.frame t v ht).mono hp⟩⟩ k
end
end Go.Sx
namespace Go.Our
open Go.Sx
def ZK:List UInt8->List (List UInt8)
 | []=>[[]]
 |c::t=>if c=45 then []::ZK t else match ZK t with
  |h::r=>(c::h)::r
  | []=>[[c]]
theorem CV:∀s,ZK s≠ []
 | []=>by simp[ZK]
 |c::t=>by
  unfold ZK;split
  simp;split<;>simp
theorem JI:∀s:List UInt8,(ZK s).length=s.count 45+1
 | []=>rfl
 |c::t=>by
  have ih:=JI t;unfold ZK;split
  rename_i h;subst h;simp[ih]
  .rename_i h;split
   .rename_i h' r e;rw[e]at ih;simp at ih⊢;rw[List.count_cons_of_ne (by simpa using h)];omega
   rename_i e;exact(CV t e).elim
theorem L6:∀{s:List UInt8},Lib.indexByte s 45= -1->ZK s=[s]
 | [],_=>rfl
 |c::t,h=>by
  unfold Lib.indexByte at h;by_cases hc:c=45
  subst hc;simp at h
  .have hge:=Lib.indexByte_ge t 45
   have:Lib.indexByte t 45= -1:=by
    simp[hc]at h;apply xX;intro hn;have:=h hn;omega
   unfold ZK;rw[z6 hc,L6 this]
theorem L7:∀{s:List UInt8} {m:Nat},Lib.indexByte s 45=m->m<s.length/\ZK s=s.take m::ZK (s.drop (m+1))
 | [],m,h=>by unfold Lib.indexByte at h;omega
 |c::t,m,h=>by
  unfold Lib.indexByte at h;by_cases hc:c=45
  .subst hc;simp at h;obtain rfl:m=0:=by omega
   simp[ZK]
  .have hge:=Lib.indexByte_ge t 45;simp[hc]at h;split at h
   omega
   .obtain⟨k,rfl⟩:∃k,m=k+1:=⟨m-1,by omega⟩;have ih:=L7 (s:=t) (m:=k) (by omega);refine⟨by simp;omega,?_⟩;conv=>lhs;unfold ZK
    rw[z6 hc,ih.2];simp only[List.take_succ_cons,vE]
theorem L8(s:List UInt8):(ZK s).length<=s.length+1:=by
 rw[JI];have:=List.count_le_length (a:=(45:UInt8)) (l:=s);omega
def Zx(s:List UInt8):List SV:=[.str s]
theorem YD(l:List (List UInt8)):Zj (l.map Zx)=true:=ZN _ (fun _=>rfl) l
instance :bu Zx:=⟨fun _=>rfl⟩
def nE(d:List (List UInt8))(k:Nat):List (List SV):=d.map Zx++List.replicate k (Zx [])
theorem L9(d:List (List UInt8))(k:Nat):Zj (nE d k)=true:=by
 unfold nE;refine Wj (YD d) ?_
 induction k with
 |zero=>rfl
 |succ k ih=>rw[List.replicate_succ];simp only[Zj,ih];rfl
theorem La{d:List (List UInt8)}{k i:Nat}(h:i=d.length)(hk:0<k):(nE d k)[i]?=some (Zx []):=by
 subst h;unfold nE;rw[zz (by simp)];simp[xk,hk]
theorem Lb{d:List (List UInt8)}{k i:Nat}{p:List UInt8}(h:i=d.length)(hk:0<k):(nE d k).set i [.str p]=nE (d++ [p]) (k-1):=by
 subst h;obtain⟨j,rfl⟩:∃j,k=j+1:=⟨k-1,by omega⟩;unfold nE;rw[xe _ _ (by simp)];simp[List.replicate_succ,Zx]
def CW(s:List UInt8):Bool:=Y8 s 1 1 false&&!VX s
def YO(p:List UInt8->Bool):List (List UInt8)->Nat
 | []=>0
 |s::l=>if p s=true then YO p l+1 else 0
theorem WL(p:List UInt8->Bool):∀l,YO p l<=l.length
 | []=>by simp[YO]
 |s::l=>by
  have:=WL p l;unfold YO;split<;>simp<;>omega
abbrev Wo(least:Int):List UInt8->Bool:=fun s=>Y8 s least 8 false
def eW:Nat->List (List UInt8)->List (List UInt8)
 |0,l=>l
 |_+1,[]=>[]
 |n+1,s::l=>if Y8 s 3 3 true=true then eW n l else s::l
def oA:List (List UInt8)->Option (List (List UInt8))
 | []=>none
 |s::l=>if Y8 s 2 8 true=true then(if 3<s.length then some l else some (eW 3 l))else none
def V3(p:List UInt8->Bool):List (List UInt8)->List (List UInt8)
 | []=>[]
 |s::l=>if p s=true then l else s::l
def XE(seen:List (List UInt8)):List (List UInt8)->Option (List (List UInt8)×List (List UInt8))
 | []=>some ([],seen)
 |s::l=>if CU s=true then(if Zw s∈seen then none else XE (seen++ [Zw s]) l)else some (s::l,seen)
def Xe(seen:List (List UInt8)):List (List UInt8)->Option (List (List UInt8))
 | []=>some []
 |s::l=>if CW s=true then
   (if YO (Wo 2) l=0\/Zw s∈seen then none else Xe (seen++ [Zw s]) (l.drop (YO (Wo 2) l)))
   else some (s::l)
termination_by l=>l.length
decreasing_by simp;omega
def Xk(l:List (List UInt8)):Option (List (List UInt8)):=
 match XE [] (V3 WK (V3 (fun s=>Y8 s 4 4 true) l))with
 |none=>none
 |some (l,seen)=>Xe seen l
def Hu(p:List UInt8->Bool):List (List UInt8)->Bool
 | []=>false
 |s::_=>p s
def aV:List (List UInt8)->Bool
 | []=>true
 |s::l=>if VX s=true then decide (YO (Wo 1) l≠0/\YO (Wo 1) l=l.length)else false
def gZ(l:List (List UInt8)):Bool:=
 if Hu VX l=true then aV l else
 match oA l with
 |none=>false
 |some l=>match Xk l with
  |none=>false
  |some l=>aV l
theorem Lc:∀s:List UInt8,((ZK s).map List.length).sum+(ZK s).length=s.length+1
 | []=>rfl
 |c::t=>by
  have ih:=Lc t;have hne:=CV t;unfold ZK;split
  simp only[zL,List.sum_cons,List.length_cons,List.length_nil];omega
  .split
   .rename_i h r e;rw[e]at ih;simp only[zL,List.sum_cons,List.length_cons]at ih⊢;omega
   rename_i e;exact(hne e).elim
def VY:List UInt8:=[104,116,116,112,58,47,47,119,119,119,46,119,51,46,111,114,103,47,49,57,57,57,47,48,50,47,50,50,45,114,100,102,45,115,121,110,116,97,120,45,110,115,35,108,97,110,103,83,116,114,105,110,103]
def nF(t y l:List UInt8):Int:=
 if 65536<t.length then 2 else if 0<=cM t 0 then 40 else if dX y≠0 then dX y else
 if l≠ []/\65536<l.length then 2 else if l≠ []/\(¬gZ (ZK l)=true\/Zw l≠l)then 61 else
 if(l≠ []/\¬y=VY)\/(l=[]/\y=VY)then 71 else 0
def uF(x:Tm):Int:=
 if x.k=1\/x.k=2 then(if x.y≠ []\/x.l≠ []then 70 else if x.k=1 then dX x.t else if 65536<x.t.length then 2 else U9 x.t)
 else if x.k=3 then nF x.t x.y x.l else 70
def XB(q:Qd):Int:=
 if ¬(q.s.k=1\/q.s.k=2)then 70 else if uF q.s≠0 then uF q.s else
 if ¬q.p.k=1 then 70 else if uF q.p≠0 then uF q.p else
 if uF q.o≠0 then uF q.o else
 if q.g=ZF then 0 else if ¬(q.g.k=1\/q.g.k=2)then 70 else uF q.g
theorem Zbf{x:Tm}(h:uF x=0):x.k=1\/x.k=2\/x.k=3:=by
 unfold uF at h;split at h
 omega
 .split at h
  omega;omega
theorem Z8K{x:Tm}(h:¬(x.k=1\/x.k=2\/x.k=3)):uF x=70:=by
 unfold uF;rw[z6 (by omega),z6 (by omega)]
def gl(l:List Qd)(i:Nat):Option (Nat×Int):=if h:i<l.length then(if XB l[i]≠0 then some (i,XB l[i])else gl l (i+1))else none
termination_by l.length-i
theorem Qi{l:List Qd}{i:Nat}(h:l.length<=i):gl l i=none:=by unfold gl;rw[yP (by omega)]
theorem G7{l:List Qd}{i:Nat}(h:i<l.length):gl l i=if XB l[i]≠0 then some (i,XB l[i])else gl l (i+1):=by
 conv=>lhs;unfold gl
 rw[yx h]
def oB(l:List Qd)(i:Nat):Option Nat:=if h:i<l.length then(if 0<=ZJ (l[i-1]'(by omega)) l[i]then some i else oB l (i+1))else none
termination_by l.length-i
theorem G8{l:List Qd}{i:Nat}(h:l.length<=i):oB l i=none:=by unfold oB;rw[yP (by omega)]
theorem Hv{l:List Qd}{i:Nat}(h:i<l.length):oB l i=if 0<=ZJ (l[i-1]'(by omega)) l[i]then some i else oB l (i+1):=by
 conv=>lhs;unfold oB
 rw[yx h]
def Yr(l:List Qd):Nat×Int:=
 if 1048576<l.length then(0,2)else match gl l 0 with
 |some x=>x
 |none=>match oB l 1 with
  |some i=>(i,6)
  |none=>(0,0)
theorem B5:∀{l:List Qd} {i:Nat},(∀x,gl l i=some x->x.2≠0)
 |l,i=>by
  intro x hx;by_cases h:i<l.length
  .rw[G7 h]at hx;split at hx
   rename_i hc;injection hx with hx;subst hx;exact hc
   exact B5 x hx
  rw[Qi (by omega)]at hx;cases hx
 termination_by l i=>l.length-i
theorem Ln:∀{l:List Qd} {i:Nat},oB l i=none->∀k (hk:k<l.length),1<=k->i<=k->ZJ (l[k-1]'(by omega)) l[k]<0
 |l,i=>by
  intro h k hk h1 hik;have hil:i<l.length:=by omega
  rw[Hv hil]at h;split at h
  cases h
  .rename_i hc;rcases xM hik with h2|rfl
   exact Ln h k hk h1 (by omega);omega
 termination_by l i=>l.length-i
theorem W0{l:List Qd}(h:(Yr l).2=0):jr ZJ l/\l.length<=1048576:=by
 unfold Yr at h;split at h
 cases h
 .rename_i hl;cases hb:gl l 0 with
  |some x=>rw[hb]at h;exact(B5 x hb h).elim
  |none=>
   rw[hb]at h;cases hf:oB l 1 with
   |some i=>rw[hf]at h;cases h
   |none=>exact⟨MT fun k hk h1=>Ln hf k hk h1 h1,by omega⟩
theorem Lo:∀{l:List Qd} {i:Nat},gl l i=none->∀k (hk:k<l.length),i<=k->XB l[k]=0
 |l,i=>by
  intro h k hk hik;rw[G7 (by omega)]at h;split at h
  cases h
  .rename_i hc;rcases xM hik with h2|rfl
   exact Lo h k hk (by omega);simpa using hc
 termination_by l i=>l.length-i
theorem Z7x{l:List Qd}(h:(Yr l).2=0):∀q∈l,XB q=0:=by
 unfold Yr at h;split at h
 cases h
 .cases hb:gl l 0 with
  |some x=>rw[hb]at h;exact(B5 x hb h).elim
  |none=>
   intro q hq;obtain⟨k,hk,rfl⟩:=yg.1 hq;exact Lo hb k hk (x8 _)
theorem Lp{s:List UInt8}(h:dX s=0):s.length<=65536:=by
 unfold dX at h;split at h
 omega
 .rename_i h1;have h1:oz s=0:=by omega
  unfold oz at h1;split at h1
  omega;omega
theorem ZdE{x:Tm}(h:uF x=0):x.t.length<=65536/\x.y.length<=65536/\x.l.length<=65536:=by
 unfold uF at h;split at h
 .split at h
  omega
  .rename_i hk hn;simp only[ne_eq,not_or,Decidable.not_not]at hn;rw[hn.1,hn.2];split at h
   exact⟨Lp h,by simp,by simp⟩
   .split at h
    omega;exact⟨by omega,by simp,by simp⟩
 .split at h
  .unfold nF at h;split at h
   omega;split at h
   omega;split at h
   rename_i h1;exact(h1 h).elim;split at h
   omega;rename_i h1 h2 h3 h4;refine⟨by omega,Lp (by simpa using h3),?_⟩;by_cases e:x.l=[]
   rw[e];simp
   .have:¬65536<x.l.length:=fun hl=>h4 ⟨e,hl⟩;omega
  omega
theorem Z8R{q:Qd}(h:XB q=0):uF q.s=0/\uF q.p=0/\uF q.o=0/\(q.g=ZF\/uF q.g=0)/\q.p.k=1:=by
 unfold XB at h;split at h
 omega;split at h
 omega;split at h
 omega;split at h
 omega;split at h
 omega;rename_i h1 h2 h3 h4 h5;refine⟨by omega,by omega,by omega,?_,by omega⟩;split at h
 exact .inl ‹_›
 .split at h
  omega;exact .inr h
theorem ZdF:∀(l:List Qd),(l.zip l.tail).all (fun x=>decide (ZJ x.1 x.2<0))=true->jr ZJ l:=by
 intro l h;refine MT fun k hk h1=>?_;rw[zN]at h
 have:=h (l[k-1]'(by omega),l[k]) (by
  rw[yg];refine⟨k-1,by simp;omega,?_⟩;simp only[List.getElem_zip,List.getElem_tail];congr 1
  congr 1;omega)
 exact of_decide_eq_true this
def nI:List UInt8:=[104,116,116,112,58,47,47,119,119,119,46,119,51,46,111,114,103,47,49,57,57,57,47,48,50,47,50,50,45,114,100,102,45,115,121,110,116,97,120,45,110,115,35,116,121,112,101]
def Ga:List UInt8:=[104,116,116,112,58,47,47,119,119,119,46,119,51,46,111,114,103,47,50,48,48,48,47,48,49,47,114,100,102,45,115,99,104,101,109,97,35,100,111,109,97,105,110]
def Gb:List UInt8:=[104,116,116,112,58,47,47,119,119,119,46,119,51,46,111,114,103,47,50,48,48,48,47,48,49,47,114,100,102,45,115,99,104,101,109,97,35,114,97,110,103,101]
def tS:List UInt8:=[104,116,116,112,58,47,47,119,119,119,46,119,51,46,111,114,103,47,50,48,48,48,47,48,49,47,114,100,102,45,115,99,104,101,109,97,35,115,117,98,80,114,111,112,101,114,116,121,79,102]
def tT:List UInt8:=[104,116,116,112,58,47,47,119,119,119,46,119,51,46,111,114,103,47,50,48,48,48,47,48,49,47,114,100,102,45,115,99,104,101,109,97,35,115,117,98,67,108,97,115,115,79,102]
abbrev gH(s:List UInt8):Tm:=⟨1,s,[],[]⟩
abbrev dr2(a b:Qd):Qd×Bool:=(⟨b.s,gH nI,a.o,a.g⟩,decide (a.p=gH Ga/\a.s=b.p))
abbrev dr3(a b:Qd):Qd×Bool:=(⟨b.o,gH nI,a.o,a.g⟩,decide (a.p=gH Gb/\a.s=b.p))
abbrev Lq(s:List UInt8)(a b:Qd):Qd×Bool:=(⟨a.s,a.p,b.o,a.g⟩,decide (a.p=gH s/\b.p=a.p/\a.o=b.s))
abbrev dr7(a b:Qd):Qd×Bool:=(⟨b.s,a.o,b.o,a.g⟩,decide (a.p=gH tS/\a.s=b.p))
abbrev dr9(a b:Qd):Qd×Bool:=(⟨b.s,gH nI,a.o,a.g⟩,decide (a.p=gH tT/\b.p=gH nI/\b.o=a.s))
def B6(n:Int)(a b:Qd):Qd×Bool:=
 if n=2 then dr2 a b else if n=3 then dr3 a b else if n=5 then Lq tS a b else if n=7 then dr7 a b else if n=9 then dr9 a b else if n=11 then Lq tT a b else(Xj,false)
def mB(n:Int)(a b:Qd):Qd×Bool:=
 if XB a=0/\XB b=0/\a.g=b.g/\(B6 n a b).2=true/\XB (B6 n a b).1=0 then((B6 n a b).1,true)else(Xj,false)
structure St where
 r:Int
 a:Qd
 b:Qd
 q:Qd
 deriving DecidableEq
def St.row(s:St):List SV:=[.int .i64 s.r,
 .int .i64 s.a.s.k, .str s.a.s.t, .str s.a.s.y, .str s.a.s.l, .int .i64 s.a.p.k, .str s.a.p.t, .str s.a.p.y, .str s.a.p.l, .int .i64 s.a.o.k, .str s.a.o.t, .str s.a.o.y, .str s.a.o.l, .int .i64 s.a.g.k, .str s.a.g.t, .str s.a.g.y, .str s.a.g.l,
 .int .i64 s.b.s.k, .str s.b.s.t, .str s.b.s.y, .str s.b.s.l, .int .i64 s.b.p.k, .str s.b.p.t, .str s.b.p.y, .str s.b.p.l, .int .i64 s.b.o.k, .str s.b.o.t, .str s.b.o.y, .str s.b.o.l, .int .i64 s.b.g.k, .str s.b.g.t, .str s.b.g.y, .str s.b.g.l,
 .int .i64 s.q.s.k, .str s.q.s.t, .str s.q.s.y, .str s.q.s.l, .int .i64 s.q.p.k, .str s.q.p.t, .str s.q.p.y, .str s.q.p.l, .int .i64 s.q.o.k, .str s.q.o.t, .str s.q.o.y, .str s.q.o.l, .int .i64 s.q.g.k, .str s.q.g.t, .str s.q.g.y, .str s.q.g.l]
abbrev Zl3(s:St):List SV:=s.row
instance :bu Zl3:=⟨fun _=>rfl⟩
structure Wd where
 all:List Qd
 why:List St
 place:List (Qd×Int)
 at':List (Qd×List Qd)
def Lr(q:Qd):Qd:=⟨q.g,ZF,q.p,ZF⟩
def Lt(q:Qd):Qd:=⟨q.g,q.s,q.p,ZF⟩
def Lu(q:Qd):Qd:=⟨q.g,ZF,q.p,q.o⟩
def ak(k:Qd)(l:List (Qd×List Qd)):List Qd:=(qi k l).getD []
def Qj(k q:Qd)(l:List (Qd×List Qd)):List (Qd×List Qd):=qv k (ak k l++ [q]) l
def bD(w:Wd)(s:St):Wd:=
 if(qi s.q w.place).isSome then w else⟨w.all++ [s.q],w.why++ [s],qv s.q (w.all.length:Int) w.place,Qj (Lu s.q) s.q (Qj (Lt s.q) s.q (Qj (Lr s.q) s.q w.at'))⟩
def Zk8:Wd:=⟨[],[],[],[]⟩
def Zk9(q:Qd):St:=⟨0,Xj,Xj,q⟩
def Zka(l:List Qd):Wd:=l.foldl (fun w q=>bD w (Zk9 q)) Zk8
abbrev qj(n:Int):SV:= .int .i64 n
abbrev B7(l:List Qd):List (List SV):=l.map Zd
abbrev Lv(l:List (Qd×Int)):List (List SV):=VR KQ qj l
abbrev atR(l:List (Qd×List Qd)):List (List DC):=YG KQ 16 B7 l
theorem Zbr(l:List (Qd×Int)):Zj (Lv l)=true:=H9 KQ _ (fun _=>rfl) l
instance {l:List (Qd×Int)}:Pl (Lv l):=⟨Zbr l⟩
theorem Zip(l:List (Qd×List Qd)):ZD (atR l)=true:=My KQ 16 _ (fun b=>ZN _ (fun _=>rfl) b) l
instance {l:List (Qd×List Qd)}:bQ (atR l):=⟨Zip l⟩
theorem Ziq(k q k':Qd)(m:List (Qd×List Qd)):ak k' (Qj k q m)=if k'=k then ak k m++ [q]else ak k' m:=by
 unfold Qj ak;rw[H8];split<;>rfl
def Hw(i:Nat)(q:Qd):Qd:=match i with|0=>Lr q|1=>Lt q|_=>Lu q
def Gc(q:Qd)(l:List (Qd×List Qd)):Nat->List (Qd×List Qd)
 |0=>l
 |i+1=>Qj (Hw i q) q (Gc q l i)
structure B8(w:Wd):Prop where
 len:w.why.length=w.all.length
 mem:∀q,q∈w.all<->(qi q w.place).isSome=true
 at3:∀k,(ak k w.at').length<=3*w.all.length
theorem Zir{w:Wd}{s:St}(h:(qi s.q w.place).isSome=true):bD w s=w:=by unfold bD;rw[z8 h]
theorem Zkb{w:Wd}{s:St}(h:qi s.q w.place=none):bD w s=⟨w.all++ [s.q],w.why++ [s],qv s.q (w.all.length:Int) w.place,Gc s.q w.at' 3⟩:=by unfold bD;rw[h];rfl
inductive Qk(l:List Qd):Qd->Prop
 |base {q:Qd} (h:q∈l):Qk l q
 |step {n:Int} {a b:Qd} (ha:Qk l a) (hb:Qk l b) (h:(mB n a b).2=true):Qk l (mB n a b).1
def Zl4(first:Bool)(q o:Qd)(n:Int):Option St:=
 let a:=if first then q else o
 let b:=if first then o else q
 if(mB n a b).2 then some ⟨n,a,b,(mB n a b).1⟩else none
def Zl5(first:Bool)(q:Qd)(others:List Qd)(ns:List Int):List St:=others.flatMap fun o=>ns.filterMap (Zl4 first q o)
def Lw{σ:Type}(T:σ->St->σ×Bool):List St->σ->σ×Bool
 | [],s=>(s,true)
 |c::cs,s=>if(T s c).2 then Lw T cs (T s c).1 else((T s c).1,false)
abbrev Ask:=Bool×Qd×List Int
def asks(q:Qd):List Ask:=[(true,⟨q.g,ZF,q.s,ZF⟩,[2,3,7]),(true,⟨q.g,q.o,q.p,ZF⟩,[5,11]),(true,⟨q.g,ZF,gH nI,q.s⟩,[9]),
 (false,⟨q.g,q.p,gH Ga,ZF⟩,[2]),(false,⟨q.g,q.p,gH Gb,ZF⟩,[3]),(false,⟨q.g,q.p,gH tS,ZF⟩,[7]),
 (false,⟨q.g,ZF,q.p,q.s⟩,[5,11]),(false,⟨q.g,q.o,gH tT,ZF⟩,[9])]
def tU{σ:Type}(T:σ->St->σ×Bool)(rd:σ->List (Qd×List Qd))(q:Qd)(a:Ask)(s:σ):σ×Bool:=Lw T (Zl5 a.1 q (ak a.2.1 (rd s)) a.2.2) s
def Gd{σ:Type}(T:σ->St->σ×Bool)(rd:σ->List (Qd×List Qd))(q:Qd):List Ask->σ->σ×Bool
 | [],s=>(s,true)
 |a::as',s=>if(tU T rd q a s).2 then Gd T rd q as' (tU T rd q a s).1 else((tU T rd q a s).1,false)
structure B9(w:Wd):Prop where
 sub:∀k o,o∈ak k w.at'->o∈w.all
 all:∀o∈w.all,∀k,k<3->o∈ak (Hw k o) w.at'
 nodup:w.all.Nodup
theorem Lx(q:Qd)(m:List (Qd×List Qd))(k o:Qd):∀i,o∈ak k (Gc q m i)<->o∈ak k m\/(o=q/\∃j,j<i/\k=Hw j q)
 |0=>by simp[Gc]
 |i+1=>by
  unfold Gc;rw[Ziq];have ih:=fun k=>Lx q m k o i;by_cases e:k=Hw i q
  .subst e;rw[z8 rfl,zX,ih,zJ];constructor
   .rintro((h|⟨h1,j,h2,h3⟩)|rfl);exact .inl h;exact .inr ⟨h1,j,by omega,h3⟩;exact .inr ⟨rfl,i,by omega,rfl⟩
   .rintro(h|⟨h1,j,h2,h3⟩);exact .inl (.inl h);exact .inr h1
  .rw[z6 e,ih];constructor
   .rintro(h|⟨h1,j,h2,h3⟩);exact .inl h;exact .inr ⟨h1,j,by omega,h3⟩
   .rintro(h|⟨h1,j,h2,h3⟩);exact .inl h
    .refine .inr ⟨h1,j,?_,h3⟩;rcases xM (Nat.le_of_lt_succ h2)with h|rfl
     exact h;exact(e h3).elim
def Zis(most:Int)(w:Wd)(s:St):Wd×Bool:=(bD w s,decide (((bD w s).all.length:Int)<=most))
def mc(known:List Qd)(s:St):Prop:=s.a∈known/\s.b∈known/\(mB s.r s.a s.b).2=true/\(mB s.r s.a s.b).1=s.q
theorem mc.mono{k k':List Qd}{s:St}(h:mc k s)(hs:∀q∈k,q∈k'):mc k' s:=⟨hs _ h.1,hs _ h.2.1,h.2.2⟩
structure Ba(l:List Qd)(w:Wd):Prop where
 here:∀(i:Nat) q,w.all[i]?=some q->qi q w.place=some (i:Int)
 why:∀(i:Nat) s,w.why[i]?=some s->w.all[i]?=some s.q/\(s.q∈l\/mc (w.all.take i) s)
structure Ge(l:List Qd)(w:Wd):Prop where
 ok:B8 w
 Gf:B9 w
 sub:∀q∈l,q∈w.all
 der:∀q∈w.all,Qk l q
 why:Ba l w
 pre:(Zka l).all<+:w.all
theorem DG(w:Wd)(s:St)(k o:Qd)(h:o∈ak k w.at'):o∈ak k (bD w s).at':=by
 cases hg:qi s.q w.place with
 |some v=>rw[Zir (by rw[hg];rfl)];exact h
 |none=>rw[Zkb hg];exact(Lx s.q w.at' k o 3).2 (.inl h)
structure Grown(l:List Qd)(most:Int)(w:Wd)(r:Wd×Bool):Prop where
 inv:Ge l r.1
 pre:w.all<+:r.1.all
 Gf:∀k o,o∈ak k w.at'->o∈ak k r.1.at'
 less:r.2=false->most< (r.1.all.length:Int)
 upto:(w.all.length:Int)<=most->(r.1.all.length:Int)<=most+1
 yes:r.2=true->(w.all.length:Int)<=most->(r.1.all.length:Int)<=most
theorem Grown.refl{l:List Qd}{most:Int}{w:Wd}(h:Ge l w):Grown l most w (w,true):=⟨h,zx,fun _ _ h=>h,(fun h=>by cases h),(fun h=>by show(w.all.length:Int)<=most+1;omega),fun _ h=>h⟩
def Zl6(most:Int)(q:Qd)(w:Wd):Wd×Bool:=Gd (Zis most) Wd.at' q (asks q) w
def nJ(most:Int)(w:Wd):Nat->Wd
 |0=>w
 |i+1=>match(nJ most w i).all[i]? with
  |some q=>(Zl6 most q (nJ most w i)).1
  |none=>nJ most w i
abbrev Bb(most:Int)(i:Nat)(w:Wd):Prop:=i<w.all.length/\(w.all.length:Int)<=most
def Zl7(most:Int)(w:Wd)(n:Nat)(v:Wd):Prop:=v=nJ most w n/\∀j,j<n->Bb most j (nJ most w j)
theorem XH(most:Int)(w:Wd):Zl7 most w 0 w:=⟨rfl,fun j h=>by omega⟩
structure Bc(l out:List Qd):Prop where
 nodup:out.Nodup
 new:∀r∈out,r∉l
 drawn:∀r∈out,∃n a b,a∈l/\b∈l/\(mB n a b).2=true/\r=(mB n a b).1
structure Hx(l out:List Qd):Prop extends Bc l out where
 all:∀a∈l,∀b∈l,∀n,(mB n a b).2=true->(mB n a b).1∈l++out
def Bd(base l:List Qd):Prop:=∀q∈l,∃t∈base,q.o=t.o
structure z5h(l m:List Qd):Prop where
 cc:jr ZJ m
 sub:∀q∈l,q∈m
 der:∀q∈m,Qk l q
 ob:Bd l m
end Go.Our
set_option maxRecDepth 20000
namespace Go.Our
open Go.Sx
end Go.Our
namespace Go.Sx
open Go
structure uZ(M:Mx)(O:u0)(nx:Nat)(O1:u0)(n1:Nat):Prop where
 out:∀Y w,vU M Y w O nx->∃η',Y<+:η'/\vU M η' w O1 n1
section
variable {M:Mx}{fr:Fr}{O O1 O2:u0}{nx n1 n2:Nat}
theorem uZ.refl:uZ M O nx O nx:=⟨fun Y w H=>⟨Y,zx,H⟩⟩
theorem uZ.trans(h:uZ M O nx O1 n1)(k:uZ M O1 n1 O2 n2):uZ M O nx O2 n2:=
 ⟨fun Y w H=>let⟨η1,p1,H1⟩:=h.out Y w H;let⟨η2,p2,H2⟩:=k.out η1 w H1;⟨η2,p1.trans p2,H2⟩⟩
theorem uZ.goes(h:uZ M O nx O1 n1):vY M fr O nx fr O1 n1:=
 ⟨fun Y a w hm=>let⟨η',hp,H⟩:=h.out Y w hm.heap;⟨η',H,hm.size,hm.fN,hm.defers.mono hp,VD hp hm.ro,fun t v ht=>(hm.frame t v ht).mono hp⟩⟩
theorem uZ.loop{body:Code}{Q:Post}(h:uZ M O nx O1 n1)(k:ua M body fr O1 n1 Q):ua M body fr O nx Q:=ua.goes h.goes k
theorem uZ.call{f:FuncId}{args:List SV}{K:SV->u0->Nat->Prop}(h:uZ M O nx O1 n1)(k:CALL M f args O1 n1 K):CALL M f args O nx K:=CALL.weak h.out k
theorem uZ.drawn{id:Nat}{ops:Array Oper}{Q:Post}(h:uZ M O nx O1 n1)(k:uK M id ops fr O1 n1 Q):uK M id ops fr O nx Q:=
 ⟨fun Y a w hm=>let⟨η1,h1⟩:=(h.goes (fr:=fr)).out Y a w hm;k.out η1 a w h1⟩
theorem uZ.fin{r:SV}{Q:SV->u0->Nat->Prop}(h:uZ M O nx O1 n1)(k:u9 M O1 n1 r Q):u9 M O nx r Q:=
 ⟨fun Y w v H hd=>let⟨η1,p1,H1⟩:=h.out Y w H;k.out η1 w v H1 (hd.mono p1)⟩
theorem uZ.Gg(i:Nat)(hi:u6 i O=some (.mp [])):uZ M O nx (uO i (.deep true 2 []) O) nx:=by
 refine⟨fun Y w H=>⟨Y,zx,?_⟩⟩;have uc:=(H.own.1 i _ hi).1;simp only[vV]at uc;obtain⟨e,es,h1,h2,h3,h4,h5⟩:=uc;have hk:∀a b x,Yy [] a b=some x->False:=fun a b x h=>by simp[Yy]at h
 refine H.bT hi h1 (fun _ _=>rfl) rfl rfl rfl rfl ?_ (zn _) fun m f=>?_
 .simp only[vV];refine⟨⟨⟨e,es,h1,h2,h3,h4,h5⟩,trivial⟩,fun e' h6=>?_⟩;rw[h1]at h6;injection h6 with h6;injection h6 with h6;subst h6
  exact⟨h2,fun o ho=>⟨fun a b es' rows h=>(hk a b _ h).elim,fun a b a' b' x x' v v' k h=>(hk a b _ h).elim⟩⟩
 .rcases f.of h1 with rfl|f
  exact u5.own h1
  .simp only[uC]at f;obtain⟨o,a,b,x,v,_,h,_⟩:=f;exact(hk a b _ h).elim
theorem uZ.w9(i j es:Nat){row row':List SV}(hi:u6 i O=some (.box row))(hr:nv nx es j row=some row'):uZ M O nx ((nx, .rows es [])::uO i (.box row') O) (nx+1):=⟨fun Y w H=>H.w9 hi hr⟩
theorem uZ.jL(i r c k:Nat){mp:Bool}{es es' n:Nat}{rs:List (List DC)}{row:List DC}{rows:List (List SV)}(hi:u6 i O=some (.deep mp es rs))(hr:rs[r]?=some row)(hc:row[c]?=some (.v (.sl (.loc k) 0 es' n none)))
 (hk:u6 k O=some (.rows es' rows)) (hn:n<=rows.length) (hki:k≠i):uZ M O nx (wh k (uO i (.deep mp es (uw rs r c (.uC es' (rows.take n)))) O)) nx:=⟨fun Y w H=>⟨Y,zx,H.jL hi hr hc hk hn hki⟩⟩
theorem Y3{m:Nat}{rs:List (List SV)}(h:Zj rs=true):Zp m (.mp rs)=true:=Jc m (h:= .mp rs) h
theorem wZ.at{J:Type}{r:Option (Nat×DC)}{A:Nat->DC->J->Prop}{B:J->Prop}{j:J}{i:Nat}{d:DC}(h:r=some (i,d))(k:A i d j):wZ r A B j:=
 ⟨fun i' d' h'=>by rw[h]at h';simp only[zh,yF]at h';obtain⟨rfl,rfl⟩:=h';exact k,fun h'=>by rw[h]at h';cases h'⟩
theorem vU.tV{Y:Env}{w:World}(H:vU M Y w O nx){i:Nat}{h h':Hp}(hi:u6 i O=some h)(hs:vV Y w true (.loc i) h')(hk:∀n,u5 Y w (.loc i) h' n->u5 Y w (.loc i) h n):vU M Y w (uO i h' O) nx:=by
 have hin:∀{a g},u6 a (uO i h' O)=some g->∃g0,u6 a O=some g0/\vV Y w true (.loc a) g/\∀n,u5 Y w (.loc a) g n->u5 Y w (.loc a) g0 n:=by
  intro a g ha;rw[Y5 _ _ _ _ (by rw[hi];rfl)]at ha;split at ha
  .rename_i e;subst e;injection ha with ha;subst ha;exact⟨_,hi,hs,hk⟩
  exact⟨g,ha,(H.own.1 _ _ ha).1,fun n f=>f⟩
 refine⟨H.pre,H.len,⟨fun a g ha=>?_,fun a b g g' n ha hb hab f f'=>?_⟩,H.fr,H.wH⟩
 .obtain⟨g0,h1,h2,h3⟩:=hin ha;exact⟨h2,fun n f=>(H.own.1 a g0 h1).2 n (h3 n f)⟩
 .obtain⟨g0,h1,_,h3⟩:=hin ha;obtain⟨g0',jo,_,FM⟩:=hin hb;exact H.own.2 a b g0 g0' n h1 jo hab (h3 n f) (FM n f')
def kP:List SV->List DC->Prop
 | [],[]=>True
 |s::r,d::ds=>(d= .v s\/(s= .val (.slice none 0 0)/\∃e,d= .uC e []))/\kP r ds
 |_,_=>False
theorem kP.len:∀{r:List SV} {ds:List DC},kP r ds->ds.length=r.length
 | [],[],_=>rfl
 |s::r,d::ds,h=>by simp[kP.len h.2]
 | [],_::_,h=>h.elim
 |_::_,[],h=>h.elim
theorem kP.get:∀{r:List SV} {ds:List DC},kP r ds->∀{c:Nat} {d:DC},ds[c]?=some d->∃s,r[c]?=some s/\(d= .v s\/(s= .val (.slice none 0 0)/\∃e,d= .uC e []))
 |s::r,d::ds,h,0,d',hc=>by simp at hc;subst hc;exact⟨s,rfl,h.1⟩
 |s::r,d::ds,h,c+1,d',hc=>by simpa using kP.get h.2 (by simpa using hc)
 | [],[],_,c,d,hc=>by simp at hc
 | [],_::_,h,_,_,_=>h.elim
 |_::_,[],h,_,_,_=>h.elim
def Be(rs:List (List SV))(ds:List (List DC)):Prop:=ds.length=rs.length/\∀(a:Nat) (row':List DC),ds[a]?=some row'->∃row,rs[a]?=some row/\kP row row'
theorem uZ.cg(i:Nat){es:Nat}{rs:List (List SV)}(ds:List (List DC))(hi:u6 i O=some (.rows es rs))(hd:Be rs ds):uZ M O nx (uO i (.deep false es ds) O) nx:=by
 refine⟨fun Y w H=>⟨Y,zx,?_⟩⟩;have uc:uQ Y w true (.loc i) es rs:=(H.own.1 i _ hi).1
 have ki:∀{a b x},Yy ds a b=some x->x.2=[]/\∃row,rs[a]?=some row/\row[b]?=some (.val (.slice none 0 0)):=by
  intro a b x hx;obtain⟨x1,x2⟩:=x;obtain⟨row',h1,h2⟩:=uB.1 hx;obtain⟨row,h3,h4⟩:=hd.2 a row' h1;obtain⟨s,h5,h6⟩:=h4.get h2;rcases h6 with h6|⟨rfl,e,h6⟩
  cases h6
  injection h6 with _ h6;exact⟨h6,row,h3,h5⟩
 have hcell:∀{e o a b x},Y.get (.loc i)=some (some e)->w.heap[e.g]?=some o->Yy ds a b=some x->e.base=0/\x.2=[]/\ZY o es a b=some (.slice none 0 0):=by
  intro e o a b x he ho hx;obtain⟨h0,row,h1,h2⟩:=ki hx;rcases uc with⟨h3,_⟩|⟨e',arr,T,fz,h3,h4,h5,h6⟩
  rw[h3]at he;cases he;rw[h3]at he;injection he with he;injection he with he;subst he
  rw[h4]at ho;injection ho with ho;subst ho
  have hb:=(h5 rfl).2.2.2;obtain⟨v,h7,_,h8⟩:=(h6 a row h1).2 b _ h2;rw[hb,zw]at h7;exact⟨hb,h0,by rw[<-h8.1];exact h7⟩
 refine H.tV hi (vV.j9 (mp:=false) ?_ (fun h=>by cases h) fun e he=>?_) fun n f=>?_
 .rcases uc with⟨h3,h4⟩|⟨e',arr,T,fz,h3,h4,h5,h6⟩
  .refine .inl ⟨h3,zO.1 ?_⟩;rw[Yc,hd.1,h4];rfl
  .refine .inr ⟨e',arr,T,fz,h3,h4,fun h=>by have:=h5 h;rwa [Yc,hd.1],fun a row' ha=>?_⟩;rw[Yp]at ha;obtain⟨dO,h7,rfl⟩:=zH.1 ha;obtain⟨row,h8,h9⟩:=hd.2 a dO h7;obtain⟨g1,g2⟩:=h6 a row h8;refine⟨by rw[zj,h9.len];exact g1,fun c sv hc=>?_⟩;rw[z7]at hc;obtain⟨d,h10,rfl⟩:=zH.1 hc;obtain⟨s,h11,h12⟩:=h9.get h10;obtain⟨v,k1,k2,k3⟩:=g2 c s h11;rcases h12 with rfl|⟨rfl,e,rfl⟩
   exact⟨v,k1,k2,k3⟩;exact⟨v,k1,k2,trivial⟩
 .have hb:e.base=0:=by
   rcases uc with⟨h3,_⟩|⟨e',arr,T,fz,h3,h4,h5,h6⟩
   rw[h3]at he;cases he;rw[h3]at he;injection he with he;injection he with he;subst he;exact(h5 rfl).2.2.2
  refine⟨hb,fun o ho=>⟨fun a b es' rows hk=>?_,fun a b a' b' x x' v v' k h1 h2 h3 h4 h5 h6=>?_⟩⟩
  .obtain⟨_,h1,h2⟩:=hcell he ho hk;simp only at h1;subst h1;exact⟨_,h2, .inl ⟨rfl,rfl⟩,by simp[Value.ownBlock]⟩
  .obtain⟨_,_,g2⟩:=hcell he ho h1;rw[g2]at h3;injection h3 with h3;subst h3;cases h5
 .obtain⟨e,he,f⟩:=f;rcases f with rfl|f
  exact u5.own he
  .simp only[uC]at f;obtain⟨o,a,b,x,v,h1,h2,h3,h4⟩:=f;obtain⟨_,_,g2⟩:=hcell he h1 h2;rw[g2]at h3;injection h3 with h3;subst h3;cases h4
theorem uZ.sN(i r c es':Nat){mp:Bool}{es:Nat}{rs:List (List DC)}{row:List DC}(hi:u6 i O=some (.deep mp es rs))(hr:rs[r]?=some row)(hc:row[c]?=some (.v (.val (.slice none 0 0)))):uZ M O nx (uO i (.deep mp es (uw rs r c (.uC es' []))) O) nx:=
 ⟨fun Y w H=>⟨Y,zx,H.sN hi hr hc⟩⟩
theorem uZ.take(i r c:Nat){mp:Bool}{es es':Nat}{rs:List (List DC)}{row:List DC}{rows:List (List SV)}(hi:u6 i O=some (.deep mp es rs))(hr:rs[r]?=some row)(hc:row[c]?=some (.uC es' rows)):
 uZ M O nx ((nx, .rows es' rows)::uO i (.deep mp es (uw rs r c (.v (.sl (.loc nx) 0 es' rows.length none)))) O) (nx+1):=
 ⟨fun Y w H=>let⟨x,h⟩:=H.take hi hr hc;⟨Y++ [x],zD _ _,h⟩⟩
theorem ua.reach{body:Code}{Q:Post}(t:Tmp){k es n:Nat}(ht:u6 t fr=some (.sl (.loc k) 0 es n none))(hn:0<n)(hd:t≠DS)(K:∀L,n<=L->ua M body ((t, .sl (.loc k) 0 es n (some L))::fr) O nx Q):ua M body fr O nx Q:=by
 refine⟨fun Y a w hm=>?_⟩;have h:=hm.frame t _ ht
 obtain⟨L,hL,hD⟩:∃L,n<=L/\Den Y (.sl (.loc k) 0 es n (some L)) (a.tmps.getD t undef):=by
  simp only[Den]at h⊢;rcases h with⟨_,_,h0⟩|⟨e,o,h1,h2,h3,h4,h5⟩
  omega;exact⟨e.cap,by simpa using h3, .inr ⟨e,o,h1,by simpa using h2,by simpa using h3,by simp,by simpa using h5⟩⟩
 refine(K L hL).out Y a w ⟨hm.heap,hm.size,hm.fN,?_,hm.ro,fun t' v ht'=>?_⟩;rw[Z6,z6 (yO hd)];exact hm.defers
 .rw[Z6]at ht';split at ht'
  rename_i e;subst e;injection ht' with ht';subst ht';exact hD
  exact hm.frame t' v ht'
theorem Hy{rs:List (List DC)}{r:Nat}{d:DC}{sv:SV}(h:rs[r]?=some [d]):(ZA (uw rs r 0 (.v sv)))[r]?=some [sv]:=by
 rw[Yp,Y1,z8 rfl,h];rfl
end
end Go.Sx
namespace Go.Proofs.YtlcbipfmodcedaaGreatDoor
open Go.Sx Go.Our
def JM(p:Pr):List SV:=[.str p.1, .str p.2]
theorem Zl(l:List Pr):Zj (l.map JM)=true:=ZN _ (fun _=>rfl) l
instance :bu JM:=⟨fun _=>rfl⟩
theorem Gh{l z:List Pr}{i k:Nat}(h:i<l.length)(e:k=i):((l++z).map JM)[k]?=some (JM l[i]):=by subst e;rw[z7,zu h,z1 h];rfl
end Go.Proofs.YtlcbipfmodcedaaGreatDoor
namespace Go.Our
open Go.Sx
abbrev KS:Bool×List CK:=(false,[CK.str])
theorem LD(a b:List UInt8):Wx KS (.str a) (.str b)=(a==b):=by simp[Wx,Jy,ZW,Zi]
theorem Vs(a:List UInt8):Ji KS (.str a)=true:=by simp[Ji,Jy,ZW,Zi]
def qB(rs:List (List SV)):Prop:=∀r∈rs,∃(k:List UInt8) (v:SV),r=[.str k,v]
theorem qB.ok{rs:List (List SV)}(h:qB rs):Jn KS rs:=fun r hr=>let⟨k,v,e⟩:=h r hr;⟨_,v,e,Vs k⟩
def kM(rs:List (List SV))(a:List UInt8):Option SV:=(X1 KS (.str a) 0 rs).map Prod.snd
theorem LF(key:SV):∀(rs:List (List SV)) (i j:Nat),(X1 KS key i rs).map Prod.snd=(X1 KS key j rs).map Prod.snd
 | [],i,j=>rfl
 |r::rs,i,j=>by
  unfold X1;split
  .split
   rfl
   exact LF key rs (i+1) (j+1)
  rfl
theorem Jg(k a:List UInt8)(v:SV)(rs:List (List SV)):kM ([.str k,v]::rs) a=if a=k then some v else kM rs a:=by
 unfold kM;conv=>lhs;unfold X1
 simp only[LD];by_cases e:a=k
 subst e;simp
 .have:(a==k)=false:=by simpa using e
  rw[this,z6 e];exact LF _ rs 1 0
theorem Z8S{rs:List (List SV)}(h:qB rs)(k a:List UInt8)(v:SV)(hk:kM rs k=none):kM (rs++ [[.str k,v]]) a=if a=k then some v else kM rs a:=by
 induction rs with
 |nil=>rw[List.nil_append,Jg]
 |cons r rs ih=>
  obtain⟨k',v',rfl⟩:=h r (zF ..);rw[Jg]at hk;have hne:k≠k':=fun e=>by rw[z8 e]at hk;cases hk
  rw[z6 hne]at hk;rw[List.cons_append,Jg,Jg,ih (fun r hr=>h r (zG _ hr)) hk];by_cases e:a=k'
  subst e;rw[z8 rfl,z8 rfl,z6 (fun e=>hne e.symm)];rw[z6 e,z6 e]
theorem LG{k:List UInt8}{v:SV}:∀{rs:List (List SV)} (h:qB rs) {i j:Nat} {u:SV} (hf:X1 KS (.str k) i rs=some (i+j,u)) (a:List UInt8),qB (rs.modify j (fM v))/\kM (rs.modify j (fM v)) a=if a=k then some v else kM rs a
 | [],h,i,j,u,hf,a=>by simp[X1]at hf
 |r::rs,h,i,j,u,hf,a=>by
  obtain⟨k',v',rfl⟩:=h r (zF ..);have ht:qB rs:=fun r hr=>h r (zG _ hr);unfold X1 at hf;simp only[LD]at hf;by_cases e:k=k'
  .subst e;simp at hf;obtain⟨rfl,_⟩:=hf;rw[List.modify_zero_cons];refine⟨fun r hr=>?_,?_⟩
   .rcases zI.1 hr with rfl|hr
    exact⟨k,v,rfl⟩;exact ht r hr
   .show kM ([.str k,v]::rs) a=_
    rw[Jg,Jg];by_cases e:a=k
    rw[z8 e,z8 e];rw[z6 e,z6 e,z6 e]
  .have hb:(k==k')=false:=by simpa using e
   rw[hb]at hf;simp only at hf;cases j with
   |zero=>
    have hge:∀(rs:List (List SV)) (m n:Nat) (x:SV),X1 KS (.str k) m rs=some (n,x)->m<=n:=by
     intro rs
     induction rs with
     |nil=>intro m n x hh;simp[X1]at hh
     |cons r rs ih=>
      intro m n x hh;unfold X1 at hh;split at hh
      .split at hh
       injection hh with hh;injection hh with h1 h2;omega;have:=ih _ _ _ hh;omega
      cases hh
    have:=hge _ _ _ _ hf;omega
   |succ j=>
    obtain⟨h1,h2⟩:=LG ht (i:=i+1) (j:=j) (u:=u) (by rw[hf,show i+1+j=i+(j+1)by omega]) a;rw[List.modify_succ_cons];refine⟨fun r hr=>?_,?_⟩
    .rcases zI.1 hr with rfl|hr
     exact⟨k',v',rfl⟩;exact h1 r hr
    .rw[Jg,Jg,h2];by_cases e2:a=k'
     subst e2;rw[z8 rfl,z8 rfl,z6 (fun e3=>e e3.symm)];rw[z6 e2,z6 e2]
theorem Gi{rs:List (List SV)}(h:qB rs)(k:List UInt8)(v:SV)(a:List UInt8):qB (jk KS (.str k) v rs)/\kM (jk KS (.str k) v rs) a=if a=k then some v else kM rs a:=by
 unfold jk;cases hf:X1 KS (.str k) 0 rs with
 |none=>
  simp only;refine⟨fun r hr=>?_,Z8S h k a v (by unfold kM;rw[hf];rfl)⟩;rcases zX.1 hr with hr|hr
  exact h r hr;have:=zJ.1 hr;subst this;exact⟨k,v,rfl⟩
 |some x=>
  obtain⟨j,u⟩:=x;simp only;exact LG h (i:=0) (j:=j) (u:=u) (by rw[hf,zw]) a
def Jo(ps:List Pr):Nat->List (List SV)
 |0=>[]
 |n+1=>jk KS (.str (ps.getD (ps.length-(n+1)) ([],[])).1) (.int .i64 ((ps.length-(n+1):Nat):Int)) (Jo ps n)
theorem JN(ps:List Pr):∀n,qB (Jo ps n)
 |0=>fun r hr=>by cases hr
 |n+1=>(Gi (JN ps n) _ _ []).1
theorem LH(ps:List Pr)(a:List UInt8):∀n,n<=ps.length->kM (Jo ps n) a=((ps.drop (ps.length-n)).findIdx? fun p=>decide (p.1=a)).map fun i=>SV.int .i64 ((ps.length-n+i:Nat):Int)
 |0,h=>by rw[Nat.sub_zero,List.drop_length];rfl
 |n+1,h=>by
  have hlt:ps.length-(n+1)<ps.length:=by omega
  have hd:ps.drop (ps.length-(n+1))=ps[ps.length-(n+1)]::ps.drop (ps.length-n):=by
   rw[zQ hlt,show ps.length-(n+1)+1=ps.length-n by omega]
  have hg:ps.getD (ps.length-(n+1)) ([],[])=ps[ps.length-(n+1)]:=by simp[List.getD,hlt]
  unfold Jo;rw[(Gi (JN ps n) _ _ a).2,LH ps a n (by omega),hd,hg,List.findIdx?_cons];by_cases e:ps[ps.length-(n+1)].1=a
  rw[z8 e.symm,yA e];simp
  .rw[z6 (fun h=>e h.symm),yp e];simp only[x6,xm,vP];congr 1;funext i;simp only[Function.comp];rw[show ps.length-(n+1)+(i+1)=ps.length-n+i by omega]
theorem LI(ps:List Pr)(a:List UInt8):kM (Jo ps ps.length) a=(ps.findIdx? fun p=>decide (p.1=a)).map fun(i:Nat)=>SV.int .i64 (i:Int):=by
 have:=LH ps a ps.length (zn _);simpa using this
end Go.Our
namespace Go.Our
open Go.Sx Go.Lib
theorem Ql(u:Nat):(decDigits u).length<=u+1:=by
 induction u using Nat.strongRecOn with
 |_ u ih=>
  rw[decDigits];split
  simp
  .have:=ih (u/10) (by omega);rw[ze,List.length_singleton];omega
def HH(l:List UInt8):Nat:=l.foldl (fun a c=>a*10+(c.toNat-48)) 0
theorem LJ(u:Nat):HH (decDigits u)=u:=by
 induction u using Nat.strongRecOn with
 |_ u ih=>
  rw[decDigits];split
  .rename_i h;simp only[HH,List.foldl_cons,List.foldl_nil,yQ,zw,vM];omega
  .rename_i h;have:=ih (u/10) (by omega);unfold HH at this⊢;rw[vt,this];simp only[List.foldl_cons,List.foldl_nil,vM];omega
def lab(i:Nat):List UInt8:=98::decDigits i
def Zke(used:List (List UInt8))(i:Nat):List (List UInt8):=((List.range i).map fun j=>lab (j+1)).filter fun s=>decide (s∉used)
def fresh(used:List (List UInt8))(n:Nat):List (List UInt8):=(Zke used (used.length+n)).take n
def Zl9(s:List UInt8):List SV:=[.str s]
instance :bu Zl9:=⟨fun _=>rfl⟩
theorem ZdK{rs:List (List SV)}(h:Zj rs=true)(k:List UInt8)(i:Int):Zj (jk KS (.str k) (.int .i64 i) rs)=true:=by
 have iff:∀rs:List (List SV),Zj rs=true<->∀r∈rs,YN r=true:=by
  intro rs
  induction rs with
  |nil=>simp[Zj]
  |cons r rs ih=>simp[Zj,ih]
 rw[iff]at h⊢;unfold jk;split
 .intro r hr;obtain⟨j,hj,rfl⟩:=yg.1 hr;rw[vi];have h0:=h (rs[j]'(by simpa using hj)) (zq _);split
  .generalize rs[j]'(by simpa using hj)=r0 at h0;unfold fM;split
   .simp only[YN,plain,y6]at h0⊢;simpa using(by simpa using h0:plain _=true/\plain _=true).1
   exact h0
  exact h0
 .intro r hr;rcases zX.1 hr with hr|hr
  exact h r hr;have:=zJ.1 hr;subst this;rfl
structure tX(l:List (List UInt8))(rs:List (List SV)):Prop where
 str:qB rs
 plain:Zj rs=true
 out:∀a,a∉l->kM rs a=none
 mem:∀a,a∈l->∃k:Nat,0<k/\k<=l.length/\kM rs a=some (.int .i64 (k:Int))
theorem tX.nil:tX [] []:=⟨fun _ h=>(xh h).elim,rfl,fun _ _=>rfl,fun _ h=>(xh h).elim⟩
theorem tX.step{l:List (List UInt8)}{rs:List (List SV)}(h:tX l rs)(s:List UInt8){k:Nat}(h0:0<k)(h1:k<=l.length+1):tX (l++ [s]) (jk KS (.str s) (.int .i64 (k:Int)) rs):=by
 refine⟨(Gi h.str s _ []).1,ZdK h.plain s _,fun a ha=>?_,fun a ha=>?_⟩
 .rw[zX,zJ,not_or]at ha;rw[(Gi h.str s _ a).2,z6 ha.2];exact h.out a ha.1
 .rw[(Gi h.str s _ a).2];by_cases e:a=s
  rw[z8 e];exact⟨k,h0,by simpa using h1,rfl⟩
  .rw[z6 e];have:a∈l:=by simpa[e]using ha
   obtain⟨k',g0,g1,g2⟩:=h.mem a this;exact⟨k',g0,by simp;omega,g2⟩
theorem tX.found{l:List (List UInt8)}{rs:List (List SV)}(h:tX l rs){s:List UInt8}{i:Nat}{v:SV}(hf:X1 KS (.str s) 0 rs=some (i,v)):s∈l/\∃k:Nat,0<k/\k<=l.length/\v= .int .i64 (k:Int):=by
 have h1:kM rs s=some v:=by unfold kM;rw[hf];rfl
 by_cases hs:s∈l
 .obtain⟨k,g0,g1,g2⟩:=h.mem s hs;rw[h1]at g2;injection g2 with g2;exact⟨hs,k,g0,g1,g2⟩
 rw[h.out s hs]at h1;cases h1
end Go.Our
namespace Go.Our
def Bh(x y:List (List UInt8))(ps:List Pr):Bool:=
 decide (ps.length=x.length)&&decide (x.length=y.length)&&decide ((ps.map Prod.fst).mergeSort (wW cmpL)=x)&&decide ((ps.map Prod.snd).mergeSort (wW cmpL)=y)
section
variable {K:Type}[DecidableEq K]{c:K->K->Int}
theorem Yb(h:jS c){l:List K}(hl:jr c l):l.Nodup:=List.Pairwise.imp (fun h1=>h.ne h1) hl
theorem Bi(h:jS c):∀{l m:List K},l.Pairwise (fun a b=>c a b<=0)->m.Pairwise (fun a b=>c a b<=0)->l.Perm m->l=m
 | [],m,_,_,hp=>(List.nil_perm.1 hp).symm
 |x::l,[],_,_,hp=>by have:=hp.length_eq;simp at this
 |x::l,y::m,hl,hm,hp=>by
  have hl':=xg.1 hl;have hm':=xg.1 hm
  have h1:c x y<=0:=by
   rcases zI.1 (hp.mem_iff.2 (zF ..):y∈x::l)with e|e
   rw[e,h.self];omega;exact hl'.1 _ e
  have h2:c y x<=0:=by
   rcases zI.1 (hp.mem_iff.1 (zF ..):x∈y::m)with e|e
   rw[e,h.self];omega;exact hm'.1 _ e
  have e:x=y:=(h.zero x y).1 (by have:=h.anti x y;omega);subst e;rw[Bi h hl'.2 hm'.2 (List.perm_cons _|>.1 hp)]
theorem X6(h:jS c)(l:List K):(l.mergeSort (wW c)).Pairwise (fun a b=>c a b<=0):=by
 have:=List.pairwise_mergeSort (le:=wW c) (fun a b d h1 h2=>by rw[Up h]at*;exact h.trans a b d h1 h2) (fun a b=>by
  have:=h.anti a b
  rw[xD,Up h,Up h];omega) l
 exact this.imp fun h1=>(Up h).1 h1
theorem Bj:∀{x l:List K},x.Nodup->l.length=x.length->(∀z∈x,z∈l)->l.Perm x
 | [],l,_,hl,_=>by
   have:l=[]:=zO.1 (by simpa using hl);rw[this]
 |z::x,l,hn,hl,hs=>by
  have hn':=xb.1 hn;have hz:=hs z (zF ..);have:=Bj (x:=x) (l:=l.erase z) hn'.2 (by rw[List.length_erase_of_mem hz,hl];simp) (fun w hw=>(List.mem_erase_of_ne (fun(e:w=z)=>hn'.1 (by rw[<-e];exact hw))).2 (hs w (zG _ hw)));exact(List.perm_cons_erase hz).trans (this.cons z)
end
end Go.Our
namespace Go.Our
open Go.Sx Go.Lib
theorem HI(u:Nat):∀c∈decDigits u,48<=c.toNat/\c.toNat<=57:=by
 induction u using Nat.strongRecOn with
 |_ u ih=>
  rw[decDigits];intro c hc;split at hc
  rw[zJ.1 hc,vM];omega
  .rcases zX.1 hc with hc|hc
   exact ih (u/10) (by omega) c hc;rw[zJ.1 hc,vM];omega
theorem ZdL{n:Int}{c:UInt8}(h:c∈itoa n):c=45\/48<=c.toNat/\c.toNat<=57:=by
 unfold itoa at h;split at h
 .rcases zI.1 h with h|h
  exact .inl h;exact .inr (HI _ _ h)
 exact .inr (HI _ _ h)
theorem HJ{u v:Nat}(h:decDigits u=decDigits v):u=v:=by
 have:=zf HH h;rwa [LJ,LJ]at this
theorem LK{u:Nat}{l:LB}(h:decDigits u=45::l):False:=by
 have:=HI u 45 (by rw[h];exact zF ..);revert this;decide
theorem Zg8{a b:Int}(h:itoa a=itoa b):a=b:=by
 unfold itoa at h;split at h<;>split at h
 have:=HJ (yW h).2;omega;exact(LK h.symm).elim;exact(LK h).elim;have:=HJ h;omega
theorem LL{d:UInt8}:∀{a b r s:LB},d∉a->d∉b->a++d::r=b++d::s->a=b/\r=s
 | [],[],_,_,_,_,h=>⟨rfl,(yW h).2⟩
 | [],y::b,_,_,_,hb,h=>(hb (by rw[(yW h).1];exact zF ..)).elim
 |x::a,[],_,_,ha,_,h=>(ha (by rw[<-(yW h).1];exact zF ..)).elim
 |x::a,y::b,r,s,ha,hb,h=>by
  obtain⟨h1,h2⟩:=yW h;obtain⟨h3,h4⟩:=LL (fun hm=>ha (zG _ hm)) (fun hm=>hb (zG _ hm)) h2;exact⟨by rw[h1,h3],h4⟩
theorem HK{a b:Int}{d:UInt8}{r s:LB}(hd:d≠45)(hr:d.toNat<48\/57<d.toNat)(h:itoa a++d::r=itoa b++d::s):a=b/\r=s:=by
 have hn:∀n:Int,d∉itoa n:=fun n hm=>by
  rcases ZdL hm with e|e
  exact hd e;omega
 obtain⟨h1,h2⟩:=LL (hn a) (hn b) h;exact⟨Zg8 h1,h2⟩
structure Seen where
 self:Bool
 cls:Int
 tm:Tm
 deriving DecidableEq
def rQ(s:Seen):Prop:=0<=s.cls/\(s.self=true->s.cls=0/\s.tm=ZF)/\(0<s.cls->s.tm=ZF)
def oO(s:LB):LB:=61::(itoa (s.length:Int)++58::s)
def Qm(t:Tm):LB:=oO t.t++(oO t.y++(oO t.l++itoa t.k))
def Vt(s:Seen):LB:=(if s.self=true then [64]else if 0<s.cls then 35::itoa (s.cls-1)else Qm s.tm)++ [32]
theorem Bk{a b r s:LB}(h:oO a++r=oO b++s):a=b/\r=s:=by
 unfold oO at h;simp only[List.cons_append,zR]at h;obtain⟨h1,h2⟩:=HK (by decide) (by decide) (yW h).2;exact List.append_inj h2 (by omega)
theorem HL{a b:Seen}{r s:LB}(ha:rQ a)(hb:rQ b)(h:Vt a++r=Vt b++s):a=b/\r=s:=by
 obtain⟨sa,ca,ta⟩:=a;obtain⟨sb,cb,tb⟩:=b;obtain⟨a1,a2,a3⟩:=ha;obtain⟨b1,b2,b3⟩:=hb;simp only at a1 a2 a3 b1 b2 b3;unfold Vt at h;simp only[zR]at h;have HM:∀t:Tm,∀w,Qm t++w=61::(itoa (t.t.length:Int)++58::(t.t++(oO t.y++(oO t.l++(itoa t.k++w))))):=fun t w=>by unfold Qm;rw[oO];simp
 cases sa
 .cases sb
  .simp only[x6,xm]at h;by_cases ea:0<ca
   .by_cases eb:0<cb
    .rw[z8 ea,z8 eb]at h;obtain⟨h1,h2⟩:=HK (d:=32) (by decide) (by decide) (yW h).2;have hc:ca=cb:=by omega
     subst hc;rw[a3 ea,b3 ea];exact⟨rfl,h2⟩
    .rw[z8 ea,z6 eb,HM]at h;exact absurd (yW h).1 (by decide)
   .by_cases eb:0<cb
    .rw[z6 ea,z8 eb,HM]at h;exact absurd (yW h).1 (by decide)
    .rw[z6 ea,z6 eb]at h;unfold Qm at h;simp only[zR]at h;obtain⟨h1,h⟩:=Bk h;obtain⟨h2,h⟩:=Bk h;obtain⟨h3,h⟩:=Bk h;obtain⟨h4,h5⟩:=HK (d:=32) (by decide) (by decide) h;have hc:ca=cb:=by omega
     obtain⟨k,t,y,l⟩:=ta;obtain⟨k',t',y',l'⟩:=tb;simp only at h1 h2 h3 h4;subst hc h1 h2 h3 h4;exact⟨rfl,h5⟩
  .simp only[x6,xm,yH]at h;by_cases ea:0<ca
   .rw[z8 ea]at h;exact absurd (yW h).1 (by decide)
   .rw[z6 ea,HM]at h;exact absurd (yW h).1 (by decide)
 .cases sb
  .simp only[x6,xm,yH]at h;by_cases eb:0<cb
   .rw[z8 eb]at h;exact absurd (yW h).1 (by decide)
   .rw[z6 eb,HM]at h;exact absurd (yW h).1 (by decide)
  .simp only[yH]at h;obtain⟨c1,t1⟩:=a2 rfl;obtain⟨c2,t2⟩:=b2 rfl;subst c1 t1 c2 t2;exact⟨rfl,by simpa using h⟩
structure Sg where
 a:Seen
 b:Seen
 c:Seen
 d:Seen
 deriving DecidableEq
def rR(s:Sg):Prop:=rQ s.a/\rQ s.b/\rQ s.c/\rQ s.d
def Xm(s:Sg):LB:=Vt s.a++(Vt s.b++(Vt s.c++Vt s.d))
theorem LM{a b:Sg}{r s:LB}(ha:rR a)(hb:rR b)(h:Xm a++r=Xm b++s):a=b/\r=s:=by
 unfold Xm at h;simp only[zR]at h;obtain⟨h1,h⟩:=HL ha.1 hb.1 h;obtain⟨h2,h⟩:=HL ha.2.1 hb.2.1 h;obtain⟨h3,h⟩:=HL ha.2.2.1 hb.2.2.1 h;obtain⟨h4,h5⟩:=HL ha.2.2.2 hb.2.2.2 h;obtain⟨p,q,u,v⟩:=a;obtain⟨p',q',u',v'⟩:=b;simp only at h1 h2 h3 h4;subst h1 h2 h3 h4;exact⟨rfl,h5⟩
theorem ZdM{a b:Sg}(ha:rR a)(hb:rR b)(h:Xm a=Xm b):a=b:=(LM (r:=[]) (s:=[]) ha hb (by rw[h])).1
theorem Zg9(s:Sg):Xm s≠ []:=by
 unfold Xm Vt;simp
def Vd:List LB->LB
 | []=>[]
 |a::l=>10::(a++Vd l)
def Wf:List LB->LB
 | []=>[]
 |a::l=>a++Vd l
def eY(t:LB):Prop:=∃s,rR s/\t=Xm s
theorem eY.ne{t:LB}(h:eY t):t≠ []:=by obtain⟨s,_,rfl⟩:=h;exact Zg9 s
theorem eY.cut{a b r s:LB}(ha:eY a)(hb:eY b)(h:a++r=b++s):a=b/\r=s:=by
 obtain⟨x,hx,rfl⟩:=ha;obtain⟨y,hy,rfl⟩:=hb;obtain⟨h1,h2⟩:=LM hx hy h;exact⟨by rw[h1],h2⟩
theorem LN:∀{l m:List LB},(∀t∈l,eY t)->(∀t∈m,eY t)->Vd l=Vd m->l=m
 | [],[],_,_,_=>rfl
 | [],b::m,_,_,h=>by simp[Vd]at h
 |a::l,[],_,_,h=>by simp[Vd]at h
 |a::l,b::m,ha,hb,h=>by
  obtain⟨h1,h2⟩:=(ha a (zF ..)).cut (hb b (zF ..)) (yW h).2;rw[h1,LN (fun t ht=>ha t (zG _ ht)) (fun t ht=>hb t (zG _ ht)) h2]
theorem Zga:∀{l m:List LB},(∀t∈l,eY t)->(∀t∈m,eY t)->Wf l=Wf m->l=m
 | [],[],_,_,_=>rfl
 | [],b::m,_,hb,h=>by have:=(hb b (zF ..)).ne;simp[Wf]at h;exact(this h.1).elim
 |a::l,[],ha,_,h=>by have:=(ha a (zF ..)).ne;simp[Wf]at h;exact(this h.1).elim
 |a::l,b::m,ha,hb,h=>by
  obtain⟨h1,h2⟩:=(ha a (zF ..)).cut (hb b (zF ..)) h;rw[h1,LN (fun t ht=>ha t (zG _ ht)) (fun t ht=>hb t (zG _ ht)) h2]
theorem Bl{K J:Type}{f:K->J}{p:K->Prop}(hf:∀a b,p a->p b->f a=f b->a=b):∀{l m:List K},(∀x∈l,p x)->(∀x∈m,p x)->(l.map f).Perm (m.map f)->l.Perm m
 | [],m,_,_,h=>by
   have:m=[]:=by have:=h.length_eq;simpa using this.symm
   rw[this]
 |a::l,m,hl,hm,h=>by
  have ha:f a∈m.map f:=h.mem_iff.1 (zF ..);obtain⟨b,hb,e⟩:=zM.1 ha;have hab:=hf b a (hm b hb) (hl a (zF ..)) e;subst hab;obtain⟨m1,m2,rfl⟩:=List.append_of_mem hb;have h2:(b::(m1++m2)).Perm (m1++b::m2):=List.perm_middle.symm;have h3:=h.trans (h2.map f).symm;simp only[zL]at h3;have h4:=List.Perm.cons_inv h3;exact((Bl hf (fun x hx=>hl x (zG _ hx)) (fun x hx=>hm x (h2.mem_iff.1 (zG _ hx))) h4).cons b).trans h2
def q9(cl:List Int)(x:Nat)(n:Int)(t:Tm):Seen:=if n<0 then⟨false,0,t⟩else if n=(x:Int)then⟨true,0,ZF⟩else⟨false,1+cl.getD n.toNat 0,ZF⟩
def aq(cl:List Int)(x:Nat)(s:Sd):Sg:=⟨q9 cl x s.a s.q.s,q9 cl x s.b s.q.p,q9 cl x s.c s.q.o,q9 cl x s.d s.q.g⟩
theorem HN{cl:List Int}(hc:∀c∈cl,0<=c)(x:Nat)(n:Int)(t:Tm):rQ (q9 cl x n t):=by
 unfold q9 rQ;split
 exact⟨Int.le_refl _,fun h=>(by cases h),fun h=>(by simp at h)⟩
 .split
  exact⟨Int.le_refl _,fun _=>⟨rfl,rfl⟩,fun h=>(by simp at h)⟩
  .have:0<=cl.getD n.toNat 0:=by
    rw[zi];cases h:cl[n.toNat]? with
    |none=>simp
    |some c=>exact hc c (y8 h)
   exact⟨(by show 0<=1+_;omega),fun h=>(by cases h),fun _=>rfl⟩
theorem LO{cl:List Int}(hc:∀c∈cl,0<=c)(x:Nat)(s:Sd):rR (aq cl x s):=⟨HN hc _ _ _,HN hc _ _ _,HN hc _ _ _,HN hc _ _ _⟩
def Yj(cl:List Int)(I:List (List Sd))(x:Nat):List Sg:=(I.getD x []).map (aq cl x)
def Jp(cl:List Int)(I:List (List Sd))(x:Nat):List LB:=((Yj cl I x).map Xm).mergeSort (wW cmpL)
def kN(cl:List Int)(I:List (List Sd))(x:Nat):LB:=itoa (cl.getD x 0)++10::Wf (Jp cl I x)
theorem LP{cl:List Int}(hc:∀c∈cl,0<=c)(I:List (List Sd))(x:Nat):∀t∈Jp cl I x,eY t:=by
 intro t ht;have ht:t∈(Yj cl I x).map Xm:=(yV _ _).mem_iff.1 ht;obtain⟨s,hs,rfl⟩:=zM.1 ht;unfold Yj at hs;obtain⟨d,_,rfl⟩:=zM.1 hs;exact⟨_,LO hc x d,rfl⟩
theorem LQ{cl:List Int}(hc:∀c∈cl,0<=c)(I:List (List Sd))(x:Nat):∀s∈Yj cl I x,rR s:=by
 intro s hs;unfold Yj at hs;obtain⟨d,_,rfl⟩:=zM.1 hs;exact LO hc x d
theorem Bm{cl:List Int}(hc:∀c∈cl,0<=c)(I:List (List Sd))(x y:Nat):kN cl I x=kN cl I y<->cl.getD x 0=cl.getD y 0/\(Yj cl I x).Perm (Yj cl I y):=by
 constructor
 .intro h;obtain⟨h1,h2⟩:=HK (d:=10) (by decide) (by decide) h;refine⟨h1,?_⟩;have h3:=Zga (LP hc I x) (LP hc I y) h2;unfold Jp at h3;have h4:((Yj cl I x).map Xm).Perm ((Yj cl I y).map Xm):=((yV _ _).symm.trans (by rw[h3])).trans (yV _ _);exact Bl (p:=rR) (fun a b ha hb=>ZdM ha hb) (LQ hc I x) (LQ hc I y) h4
 .rintro⟨h1,h2⟩;unfold kN Jp;rw[h1,Bi kr (X6 kr _) (X6 kr _) (((yV _ _).trans (h2.map Xm)).trans (yV _ _).symm)]
section
variable {K:Type}[BEq K][LawfulBEq K]
def ZC(l:List K):List K:=l.foldl (fun acc k=>if k∈acc then acc else acc++ [k]) []
theorem Xu(l:List K){i:Nat}(h:i<l.length):ZC (l.take (i+1))=if l[i]∈ZC (l.take i)then ZC (l.take i)else ZC (l.take i)++ [l[i]]:=by
 unfold ZC;rw[zB h,vt];rfl
theorem LR(l:List K):∀(i j:Nat),i<=j->∃m,ZC (l.take j)=ZC (l.take i)++m
 |i,j,h=>by
  induction j with
  |zero=>have:i=0:=by omega
         subst this;exact⟨[],by simp⟩
  |succ j ih=>
   by_cases e:i=j+1
   subst e;exact⟨[],by simp⟩
   .obtain⟨m,hm⟩:=ih (by omega);by_cases hl:j<l.length
    .rw[Xu l hl];split
     exact⟨m,hm⟩;exact⟨m++ [l[j]],by rw[hm,zR]⟩
    .rw[zo (by omega)];rw[zo (by omega)]at hm;exact⟨m,hm⟩
theorem Bn(l:List K)(i:Nat):(ZC (l.take i)).length<=i:=by
 induction i with
 |zero=>simp[ZC]
 |succ i ih=>
  by_cases hl:i<l.length
  .rw[Xu l hl];split
   omega;simp;omega
  .rw[zo (by omega)]at ih⊢;omega
theorem LU(l:List K){i:Nat}(h:i<l.length):l[i]∈ZC (l.take (i+1)):=by
 rw[Xu l h];split
 assumption
 simp
theorem Uw(l:List K)(i:Nat):(ZC (l.take i)).Nodup:=by
 induction i with
 |zero=>simp[ZC]
 |succ i ih=>
  by_cases hl:i<l.length
  .rw[Xu l hl];split
   exact ih
   .rename_i hn;exact xU.2 ⟨ih,by simp,fun a ha b hb=>by rw[zJ.1 hb];exact fun e=>hn (e▸ha)⟩
  .rw[zo (by omega)]at ih⊢;exact ih
def XM(l:List K):List Int:=l.map fun k=>((ZC l).idxOf k:Int)
theorem YX(l:List K):(XM l).length=l.length:=by simp[XM]
theorem Zit{a m:List K}{k:K}(h:k∈a):(a++m).idxOf k=a.idxOf k:=by rw[List.idxOf_append,z8 h]
theorem Bo(l:List K){i:Nat}(h:i<l.length):(XM l)[i]?=some (((ZC (l.take (i+1))).idxOf l[i]:Nat):Int):=by
 unfold XM;rw[z7,z1 h];obtain⟨m,hm⟩:=LR l (i+1) l.length (by omega);rw[yb]at hm;simp only[Option.map_some];rw[hm,Zit (LU l h)]
theorem Zgb(l:List K){i:Nat}(h:i<l.length)(hm:l[i]∈ZC (l.take i)):(XM l)[i]?=some (((ZC (l.take i)).idxOf l[i]:Nat):Int):=by
 rw[Bo l h,Xu l h,z8 hm]
theorem Zgc(l:List K){i:Nat}(h:i<l.length)(hm:l[i]∉ZC (l.take i)):(XM l)[i]?=some (((ZC (l.take i)).length:Nat):Int):=by
 rw[Bo l h,Xu l h,z6 hm,List.idxOf_append,z6 hm];simp
theorem LV(l:List K):∀c∈XM l,0<=c/\c< ((ZC l).length:Int):=by
 intro c hc;obtain⟨i,hi,rfl⟩:=yg.1 hc;rw[YX]at hi;have h1:=Bo l hi;rw[z1 (by rw[YX];exact hi)]at h1;have h2:=zy (LU l hi);obtain⟨m,hm⟩:=LR l (i+1) l.length (by omega);rw[yb]at hm;rw[hm,ze];injection h1 with h1;rw[h1];omega
end
end Go.Our
namespace Go.Sx
open Go Go.Sort Go.Shelf Go.Proofs
theorem jw.i7{w0 w:World}{F:Nat->Prop}(h:jw w0 w F)(q:Nat)(os:Array Obj):jw w0 (grow (w.drewN q) os) F:=by
 refine⟨h.os,h.tape,h.output,zK h.drawn (Nat.le_add_right _ _),?_,fun k hk hF=>?_⟩;simp only[grow,World.drewN,xT];exact zK h.size (Nat.le_add_right _ _)
 .simp only[grow,World.drewN];rw[ya (yI hk h.size)];exact h.block k hk hF
theorem vU.i7{M:Mx}{K:Env}{w:World}{O:u0}{nx:Nat}(H:vU M K w O nx)(q:Nat)(os:Array Obj):vU M K (grow (w.drewN q) os) O nx:=by
 have hk:∀{i h},u6 i O=some h->∀k,u5 K w (.loc i) h k->(grow (w.drewN q) os).heap[k]?=w.heap[k]?:=fun hi k f=>by
  simp only[grow,World.drewN];exact ya ((H.own.1 _ _ hi).1.uL f)
 have hb:∀{i h},u6 i O=some h->∀k,u5 K (grow (w.drewN q) os) (.loc i) h k->u5 K w (.loc i) h k:=fun hi k f=>H.stands zx hi (hk hi) f;exact⟨H.pre,H.len,⟨fun i h hi=>⟨(H.own.1 i h hi).1.keep (hk hi),fun k f=>(H.own.1 i h hi).2 k (hb hi k f)⟩,fun i j h h' k hi hj hij f f'=>H.own.2 i j h h' k hi hj hij (hb hi k f) (hb hj k f')⟩,H.fr.i7 q os,H.wH⟩
theorem ZdP{P:Program}{T:qg}{ρ:Ren}(L:LaysM.n243 P ρ)(ef:∀args w,(callFunc (ρ.f 243) args).run P w= .ok (.enter (ρ.f 243) args) w){g:Nat}(Qa:P.globalNamed "internal/strconv.uint64pow10" =some g)
 (tE:u6 g T.qS=some (.cI (Lib.pow10Tab.map fun z=>Value.int .u64 z))) (n:Int) (h0: -9223372036854775808<=n) (h1:n<=9223372036854775807):
 vW P T (ρ.f 243) 0 [.int .i64 n] [] [] (wF (.str (Lib.itoa n))):=by
 refine⟨fun M vs hP dw hF hS H hd=> .inl ⟨ρ.f 243,by rw[hP];exact ef _ _,?_⟩⟩;obtain⟨P',⟨T',N',S',aO⟩,w0,F,η0⟩:=M;simp only at hP dw hF hS H hd⊢;subst hP dw;simp only[vX,Den]at hd;obtain⟨v,us,rfl,rfl,rfl⟩:=hd
 have htab:Lib.TabIs P' w0 "internal/strconv.uint64pow10" .u64 Lib.pow10Tab:=by
  have h:=H.shared (b:= .uM g) tE;simp only[vV,Env.get]at h;obtain⟨e,he,hb,T,fz,hc⟩:=h;injection he with he;injection he with he;subst he;unfold Lib.TabIs World.var?;rw[Qa];simp only[Option.bind_some];rw[hc]
 refine(Any.internal_strconv_Itoa L n h0 h1 w0 htab).mono ?_;rintro e w' ⟨rfl,q,os,rfl⟩;exact⟨_,rfl,_,_,_,η0,⟨rfl,rfl,rfl⟩,zx,H.i7 q os,by simp only[Den]⟩
end Go.Sx
namespace Go.Our
open Go Go.Sx
inductive Out where
 |found (ys:List Nat) (left:Nat)
 |none (left:Nat)
 |over
def eZ(ok:Nat->Bool)(fits:List Nat->Bool)(next:List Nat->Nat->Out)(ys:List Nat):List Nat->Nat->Out
 | [],left=> .none left
 |y::l,left=>
  if y∈ys\/ok y=false then eZ ok fits next ys l left
  else match left with
   |0=> .over
   |left+1=>if fits (ys++ [y])=true then(match next (ys++ [y]) left with
     | .none left'=>eZ ok fits next ys l left'
     |o=>o)else eZ ok fits next ys l left
def XP(n:Nat)(ok:Nat->Nat->Bool)(fits:List Nat->Bool):Nat->List Nat->Nat->Out
 |0,ys,left=> .found ys left
 |d+1,ys,left=>eZ (ok ys.length) fits (XP n ok fits d) ys (List.range n) left
theorem Rg{ok:Nat->Bool}{fits:List Nat->Bool}{next:List Nat->Nat->Out}{ys:List Nat}{P:List Nat->Prop}{b:Nat}(hn:∀zs k,(∃y,zs=ys++ [y]/\y∉ys/\ok y=true/\y<b)->∀o,next zs k=o->(∀r m,o= .found r m->P r/\m<=k)/\∀m,o= .none m->m<=k):
 ∀(l:List Nat) (left:Nat),(∀y∈l,y<b)->(∀r m,eZ ok fits next ys l left= .found r m->P r/\m<=left)/\∀m,eZ ok fits next ys l left= .none m->m<=left
 | [],left,_=>⟨fun r m h=>by simp[eZ]at h,fun m h=>by simp only[eZ]at h;injection h with h;omega⟩
 |y::l,left,hb=>by
  have ih:=fun k=>Rg (fits:=fits) hn l k fun z hz=>hb z (zG _ hz);unfold eZ;split
  exact ih left
  .rename_i hy;have hy1:y∉ys:=fun h=>hy (.inl h)
   have hy2:ok y=true:=by cases h:ok y with
    |true=>rfl
    |false=>exact(hy (.inr h)).elim
   cases left with
   |zero=>exact⟨fun r m h=>(by cases h),fun m h=>(by cases h)⟩
   |succ left=>
    dsimp only;split
    .have hN:=hn (ys++ [y]) left ⟨y,rfl,hy1,hy2,hb y (zF ..)⟩ _ rfl;split
     .rename_i left' hl;have h1:=hN.2 left' hl;have h2:=ih left';exact⟨fun r m h=>⟨(h2.1 r m h).1,zK (h2.1 r m h).2 (by omega)⟩,fun m h=>zK (h2.2 m h) (by omega)⟩
     .rename_i ho;exact⟨fun r m h=>⟨(hN.1 r m h).1,zK (hN.1 r m h).2 (by omega)⟩,fun m h=>(ho m h).elim⟩
    .have h2:=ih left;exact⟨fun r m h=>⟨(h2.1 r m h).1,zK (h2.1 r m h).2 (by omega)⟩,fun m h=>zK (h2.2 m h) (by omega)⟩
structure Ps(n:Nat)(ok:Nat->Nat->Bool)(ys:List Nat):Prop where
 lt:∀y∈ys,y<n
 nd:ys.Nodup
 ok:∀i (h:i<ys.length),ok i ys[i]=true
theorem Ps.snoc{n:Nat}{ok:Nat->Nat->Bool}{ys:List Nat}{y:Nat}(h:Ps n ok ys)(hy:y∉ys)(hk:ok ys.length y=true)(hl:y<n):Ps n ok (ys++ [y]):=by
 refine⟨fun z hz=>?_,?_,fun i hi=>?_⟩
 .rcases zX.1 hz with h1|h1
  exact h.lt z h1;rw[zJ.1 h1];exact hl
 .rw[xU];refine⟨h.nd,by simp,fun a ha b hb e=>?_⟩;rw[zJ]at hb;subst hb e;exact hy ha
 .rw[List.getElem_append];split
  rename_i h1;exact h.ok i h1
  .rename_i h1;rw[ze,List.length_singleton]at hi;have:i=ys.length:=by omega
   subst this;simpa using hk
theorem BI{n:Nat}{ok:Nat->Nat->Bool}{fits:List Nat->Bool}:∀(d:Nat) (ys:List Nat) (left:Nat),Ps n ok ys->(∀r m,XP n ok fits d ys left= .found r m->(Ps n ok r/\r.length=ys.length+d)/\m<=left)/\∀m,XP n ok fits d ys left= .none m->m<=left
 |0,ys,left,h=>⟨fun r m e=>by simp only[XP]at e;injection e with e1 e2;subst e1 e2;exact⟨⟨h,rfl⟩,zn _⟩,fun m e=>by simp[XP]at e⟩
 |d+1,ys,left,h=>by
  unfold XP;refine Rg (b:=n) (P:=fun r=>Ps n ok r/\r.length=ys.length+(d+1)) (fun zs k ⟨y,hz,h1,h2,h3⟩ o ho=>?_) _ _ fun y hy=>zY.1 hy;subst hz ho;have ih:=BI (fits:=fits) d (ys++ [y]) k (h.snoc h1 h2 h3);refine⟨fun r m e=>?_,ih.2⟩;obtain⟨⟨k1,k2⟩,k3⟩:=ih.1 r m e;exact⟨⟨k1,by rw[k2,ze,List.length_singleton];omega⟩,k3⟩
theorem jJ{f:LB->Int}{q:Qd}{n:Int}:n∈wE f q<->∃t∈Zv q,t.k=2/\f t.t=n:=by
 have:∀(l:List Tm) (acc:List Int),n∈l.foldl (qP f) acc<->n∈acc\/∃t∈l,t.k=2/\f t.t=n:=by
  intro l
  induction l with
  |nil=>intro acc;simp
  |cons t l ih=>
   intro acc;rw[List.foldl_cons,ih];unfold qP;by_cases hk:t.k=2
   .rw[z8 hk];by_cases hm:f t.t∈acc
    .rw[z8 hm];constructor
     .rintro(h|⟨u,hu,h1⟩);exact .inl h;exact .inr ⟨u,zG _ hu,h1⟩
     .rintro(h|⟨u,hu,h1,h2⟩);exact .inl h
      .rcases zI.1 hu with rfl|hu
       exact .inl (h2▸hm);exact .inr ⟨u,hu,h1,h2⟩
    .rw[z6 hm,zX,zJ];constructor
     .rintro((h|h)|⟨u,hu,h1⟩);exact .inl h;exact .inr ⟨t,zF ..,hk,h.symm⟩;exact .inr ⟨u,zG _ hu,h1⟩
     .rintro(h|⟨u,hu,h1,h2⟩);exact .inl (.inl h)
      .rcases zI.1 hu with rfl|hu
       exact .inl (.inr h2.symm);exact .inr ⟨u,hu,h1,h2⟩
   .rw[z6 hk];constructor
    .rintro(h|⟨u,hu,h1⟩);exact .inl h;exact .inr ⟨u,zG _ hu,h1⟩
    .rintro(h|⟨u,hu,h1,h2⟩);exact .inl h
     .rcases zI.1 hu with rfl|hu
      exact(hk h1).elim;exact .inr ⟨u,hu,h1,h2⟩
 unfold wE;rw[this];simp
theorem Ze2(f:LB->Int)(q:Qd):(wE f q).Nodup:=by
 have:∀(l:List Tm) (acc:List Int),acc.Nodup->(l.foldl (qP f) acc).Nodup:=by
  intro l
  induction l with
  |nil=>intro acc h;exact h
  |cons t l ih=>
   intro acc h;rw[List.foldl_cons];refine ih _ ?_;unfold qP;split
   .split
    exact h
    .rename_i hm;rw[xU];refine⟨h,by simp,fun a ha b hb e=>?_⟩;rw[zJ]at hb;subst hb e;exact hm ha
   exact h
 exact this _ [] List.nodup_nil
theorem Rh{s:Sd}:∀{L:List Int} {I:List (List Sd)} {x:Nat} (h:x<I.length),L.Nodup->(∀n∈L,0<=n)->(L.foldl (jE s) I)[x]'(by rw[He];exact h)=I[x]++(if(x:Int)∈L then [s]else [])
 | [],I,x,h,_,_=>by simp
 |n::L,I,x,h,hd,hp=>by
  have h':x< (jE s I n).length:=by rw[MB];exact h
  have hd':=xb.1 hd;simp only[List.foldl_cons];rw[Rh h' hd'.2 fun m hm=>hp m (zG _ hm)];have hn:=hp n (zF ..);have hg:(jE s I n)[x]=if n.toNat=x then I[x]++ [s]else I[x]:=vi ..
  rw[hg];by_cases hx:n=(x:Int)
  .subst hx;rw[z8 (by simp),z6 hd'.1,z8 (zF ..),zU]
  .rw[z6 (by omega)];have:((x:Int)∈n::L)<->(x:Int)∈L:=by simp[yO hx]
   by_cases hm:(x:Int)∈L
   rw[z8 hm,z8 (this.2 hm)];rw[z6 hm,z6 (fun h=>hm (this.1 h))]
theorem Uy{f:LB->Int}:∀{l:List Qd} {I:List (List Sd)} {x:Nat} (h:x<I.length) (h':x< (l.foldl (kL f) I).length),(∀q∈l,∀n∈wE f q,0<=n)->(l.foldl (kL f) I)[x]=I[x]++(l.filter fun q=>decide ((x:Int)∈wE f q)).map (gP f)
 | [],I,x,h,_,_=>by simp
 |q::l,I,x,h,h',hp=>by
  have h1:x< (kL f I q).length:=by rw[MC];exact h
  simp only[List.foldl_cons];rw[Uy h1 (by simpa only[List.foldl_cons]using h') fun r hr=>hp r (zG _ hr)];have hg:(kL f I q)[x]=I[x]++(if(x:Int)∈wE f q then [gP f q]else []):=Rh h (Ze2 f q) (hp q (zF ..));rw[hg,List.filter_cons];by_cases hm:(x:Int)∈wE f q
  rw[z8 hm,z8 (yA hm),zL,zR];rfl;rw[z6 hm,z6 (by simpa using hm),zU]
end Go.Our
