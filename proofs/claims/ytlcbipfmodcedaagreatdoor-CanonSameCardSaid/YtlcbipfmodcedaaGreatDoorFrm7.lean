/- Part 7: SxDrawn, SxDrawnS, SxDrawnT, SxAuto3, CmpM, SetM, SetN, ListM, MapG, ApartM, IsoM, MapM, FreshM, BijM, SightM, RefM, PadM, Sort, SxRange, SortS, SetO, SxKeep. Conditions: as each part says. -/
import Derived.Lib.Bytealg
import Derived.Lib.Strings
import Derived.Lib.ItoaNum
import Derived.Shelf.SlSortCmp.NoneTotal
import Derived.RangeFuncNested
import Derived.Shelf.Sort.Plain
import Derived.Shelf.Slices.In.SortNone
import Derived.Test.YtlcbipfmodcedaaGreatDoorFrm3
import Derived.Test.YtlcbipfmodcedaaGreatDoorFrm6
set_option linter.unusedVariables false
set_option linter.unusedSimpArgs false
namespace Go.Sx
open Go
def aX(v:SV):Prop:=∀Y u u',Den Y v u->Den Y v u'->u=u'
def cH(vs:List SV):Prop:=∀Y us us',vV Y vs us->vV Y vs us'->us=us'
mutual
def jP:SV->Bool
 | .bool _| .int _ _| .str _| .ptr _ _ _ _| .val _| .mp _| .yf _=>true
 | .jJ _=>false
 | .sl _ r _ _ _=>Nat.beq r 0
 | .agg cs=>nV cs
 | .uz vs=>nV vs
 | .fH _ v=>jP v
 | .fn _ a b=>nV a&&nV b
 | .arr _ _=>false
 | .any=>false
 | .nb _=>false
def nV:List SV->Bool
 | []=>true
 |c::cs=>jP c&&nV cs
end
mutual
theorem aX.of:∀{v:SV},jP v=true->aX v
 | .bool _,_=>fun Y u u' h h'=>by simp only[Den]at h h';rw[h,h']
 | .int _ _,_=>fun Y u u' h h'=>by simp only[Den]at h h';rw[h,h']
 | .str _,_=>fun Y u u' h h'=>by simp only[Den]at h h';rw[h,h']
 | .val _,_=>fun Y u u' h h'=>by simp only[Den]at h h';rw[h.1,h'.1]
 | .mp b,_=>fun Y u u' h h'=>by
   simp only[Den]at h h';obtain⟨e,h1,rfl⟩:=h;obtain⟨e',h2,rfl⟩:=h';rw[h1]at h2;injection h2 with h2;injection h2 with h2;rw[h2]
 | .ptr b r es c,_=>fun Y u u' h h'=>by
   simp only[Den]at h h';obtain⟨e,h1,rfl⟩:=h;obtain⟨e',h2,rfl⟩:=h';rw[h1]at h2;injection h2 with h2;injection h2 with h2;rw[h2]
 | .sl b r es len lim,hd=>fun Y u u' h h'=>by
   simp only[jP]at hd;have hd:=Zr hd;simp only[Den]at h h';rcases h with⟨h1,rfl,_⟩|⟨e,o,h1,rfl,_,_,h2⟩
   .rcases h' with⟨kS,rfl,_⟩|⟨e',o',kS,rfl,_,_,iL⟩
    rfl
    rw[h1]at kS;cases kS
   .rcases h' with⟨kS,rfl,_⟩|⟨e',o',kS,rfl,_,_,iL⟩
    rw[h1]at kS;cases kS
    .rw[h1]at kS;injection kS with kS;injection kS with kS;subst kS
     rw[h2 (.inr hd),iL (.inr hd)]
 | .agg cs,hd=>fun Y u u' h h'=>by
   simp only[jP]at hd;simp only[Den]at h h';obtain⟨us,rfl,h1,_⟩:=h;obtain⟨us',rfl,h2,_⟩:=h';rw[cH.of hd Y us us' h1 h2]
 | .uz cs,hd=>fun Y u u' h h'=>by
   simp only[jP]at hd;simp only[Den]at h h';obtain⟨us,rfl,h1⟩:=h;obtain⟨us',rfl,h2⟩:=h';rw[cH.of hd Y us us' h1 h2]
 | .fH t v,hd=>fun Y u u' h h'=>by
   simp only[jP]at hd;simp only[Den]at h h';obtain⟨us,rfl,h1⟩:=h;obtain⟨us',rfl,h2⟩:=h';rw[aX.of hd Y us us' h1 h2]
 | .fn f a b,hd=>fun Y u u' h h'=>by
   simp only[jP,zj]at hd;simp only[Den]at h h';obtain⟨us,vs,rfl,h1,h3⟩:=h;obtain⟨us',vs',rfl,h2,h4⟩:=h';rw[cH.of hd.1 Y us us' h1 h2,cH.of hd.2 Y vs vs' h3 h4]
 | .arr _ _,hd=>by simp[jP]at hd
 | .any,hd=>by simp[jP]at hd
 | .nb _,hd=>by simp[jP]at hd
 | .jJ _,hd=>by simp[jP]at hd
 | .yf b,_=>fun Y u u' h h'=>by
   simp only[Den]at h h';obtain⟨e,h1,rfl⟩:=h;obtain⟨e',h2,rfl⟩:=h';rw[h1]at h2;injection h2 with h2;injection h2 with h2;rw[h2]
theorem cH.of:∀{vs:List SV},nV vs=true->cH vs
 | [],_=>fun Y us us' h h'=>by simp only[vV]at h h';rw[h,h']
 |c::cs,hd=>fun Y us us' h h'=>by
  simp only[nV,zj]at hd;simp only[vV]at h h';obtain⟨u,r,rfl,h1,h2⟩:=h;obtain⟨u',r',rfl,kS,iL⟩:=h';rw[aX.of hd.1 Y u u' h1 kS,cH.of hd.2 Y r r' h2 iL]
end
def Wk:vX->List (wq×Hp)
 | []=>[]
 |(i,h)::r=>(.loc i,h)::Wk r
def iN(C:Cx)(O:vX):Cx:=⟨C.T,C.N,Wk O++C.S,C.ro⟩
def K1(C:Cx):Cx:=⟨{C.T with qt:=[],dA:=rfl},C.N,[],C.ro⟩
def cI(M:Mx)(O:vX)(Y:Env)(w:World):Mx:=⟨M.P,iN M.C O,w,fun _=>False,Y,none⟩
def K2(M:Mx)(Y:Env)(w:World):Mx:=⟨M.P,K1 M.C,w,fun _=>False,Y,none⟩
def Fl:SV->Prop->Prop
 | .bool _,K| .int _ _,K| .str _,K| .ptr _ _ _ _,K| .val _,K=>K
 | .agg cs,K=>match nV cs with|true=>K|false=>u6 (aX (.agg cs)) K
 | .uz cs,K=>match nV cs with|true=>K|false=>u6 (aX (.uz cs)) K
 |v,K=>u6 (aX v) K
def iO(N:Nat)(C:Cx)(o:Oper)(fr:Fr)(nx:Nat)(K:SV->Prop):Prop:=
 match JG N o.dst with
 |false=>uF "slot"
 |true=>match o.op with
  | .move x=>match V3 fr x with|some v=>K v|none=>uF "operand"
  | .assign x=>match V3 fr x with|some v=>K v|none=>uF "operand"
  |op=>match Oq op with
   |true=>uF "writes"
   |false=>(w5 C (V3 fr) [] nx op).gv fun v=>Fl v (K v)
structure wh(M:Mx)(o:Oper)(fr:Fr)(O:vX)(nx:Nat)(K:SV->vX->Nat->Prop):Prop where
 r5::
 hout:∀Y w,vR M Y w O nx->oQ (cI M O Y w) o (V3 fr) [] nx fun v O2 nx=>K v (O2++O) nx
theorem wh.mk{M:Mx}{o:Oper}{fr:Fr}{O:vX}{nx:Nat}{K:SV->vX->Nat->Prop}(h:∀Y w,oQ (cI M O Y w) o (V3 fr) [] nx fun v O2 nx=>K v (O2++O) nx):wh M o fr O nx K:=⟨fun Y w _=>h Y w⟩
def K3(M:Mx)(m:Nat)(o:Oper)(fr:Fr)(O:vX)(nx:Nat)(K:SV->vX->Nat->Prop):Prop:=
 match m with
 |0=>oQ M o (V3 fr) O nx K
 |1=>iO M.C.N (K1 M.C) o fr nx fun v=>K v O nx
 |2=>iO M.C.N (iN M.C O) o fr nx fun v=>K v O nx
 |_=>wh M o fr O nx K
inductive uu where
 |nil
 |take (i m:Nat) (t:uu)
 |fork (i mi j mj:Nat) (a b:uu)
 |aB (i mi j mj k mk:Nat) (a b c:uu)
 |join (t:uu)
def Zs:List (Nat×Nat)->uu
 | []=> .nil
 |(i,m)::r=> .take i m (Zs r)
def uu.depth:uu->Nat
 | .nil=>0
 | .take _ _ t=>t.depth+1
 | .fork _ _ _ _ a _=>a.depth+1
 | .aB _ _ _ _ _ _ a _ _=>a.depth+1
 | .join t=>t.depth
structure qz(A B:Prop):Prop where
 a:A
 b:B
structure eH(A:Fr->Prop)(fr:Fr):Prop where
 out:∃fr',(∀t,u5 t fr'=u5 t fr)/\A fr'
theorem eH.go{A:Fr->Prop}{fr:Fr}(h:A fr):eH A fr:=⟨fr,fun _=>rfl,h⟩
theorem eH.ij{A:Fr->Prop}{fr:Fr}{a b c s:Nat}{x y z g:SV}(h:A ((b,y)::(c,z)::(a,x)::(s,g)::fr))(hd:(a≠s/\b≠s/\c≠s)/\a≠b/\a≠c/\b≠c):eH A ((b,y)::(s,g)::(c,z)::(s,g)::(a,x)::(s,g)::fr):=by
 refine⟨_,fun t=>?_,h⟩;obtain⟨⟨h1,h2,h3⟩,h4,h5,h6⟩:=hd;simp only[Z8];repeat' split
 all_goals first|rfl|(exfalso;omega)
theorem eH.ji{A:Fr->Prop}{fr:Fr}{a b c s:Nat}{x y z g:SV}(h:A ((b,y)::(c,z)::(a,x)::(s,g)::fr))(hd:(a≠s/\b≠s/\c≠s)/\a≠b/\a≠c/\b≠c):eH A ((c,z)::(s,g)::(a,x)::(s,g)::(b,y)::(s,g)::fr):=by
 refine⟨_,fun t=>?_,h⟩;obtain⟨⟨h1,h2,h3⟩,h4,h5,h6⟩:=hd;simp only[Z8];repeat' split
 all_goals first|rfl|(exfalso;omega)
def wA(M:Mx)(ops:List Oper)(i m:Nat)(fr:Fr)(O:vX)(nx:Nat)(K:Fr->vX->Nat->Prop):Prop:=
 match nth ops i with
 |none=>uF "order"
 |some o=>match o.guard with
  |none=>K3 M m o fr O nx fun v O nx=>wz o.dst v fr fun fr=>K fr O nx
  |some (j,want)=>
   match UL ops j with
   |none=>uF "guard"
   |some s=>match u5 s fr with
    |some (.bool b)=>IF b
     (fun J=>match want with
      |true=>K3 M m o ((s, .bool true)::fr) O nx fun v O nx=>wz o.dst v ((s, .bool true)::fr) fun fr=>J fr O nx
      |false=>match JG M.C.N o.dst with|true=>wz o.dst YS ((s, .bool true)::fr) fun fr=>J fr O nx|false=>uF "slot")
     (fun J=>match want with
      |false=>K3 M m o ((s, .bool false)::fr) O nx fun v O nx=>wz o.dst v ((s, .bool false)::fr) fun fr=>J fr O nx
      |true=>match JG M.C.N o.dst with|true=>wz o.dst YS ((s, .bool false)::fr) fun fr=>J fr O nx|false=>uF "slot")
     K
    |some (.uz [])=>match JG M.C.N o.dst with|true=>wz o.dst YS fr fun fr=>K fr O nx|false=>uF "slot"
    |_=>uF "guard"
def Zky(M:Mx)(ops:List Oper)(i m:Nat)(_:uu)(rest:RunT):RunT:=fun fr O nx K=>wA M ops i m fr O nx fun fr O nx=>rest fr O nx K
def Zkz(M:Mx)(ops:List Oper)(i mi j mj:Nat)(_ _:uu)(a b:RunT):RunT:=fun fr O nx K=>qz (wA M ops i mi fr O nx fun fr O nx=>a fr O nx K) (wA M ops j mj fr O nx fun fr O nx=>b fr O nx K)
def ZjA(M:Mx)(ops:List Oper)(i mi j mj k mk:Nat)(_ _ _:uu)(a b c:RunT):RunT:=fun fr O nx K=>qz (wA M ops i mi fr O nx fun fr O nx=>a fr O nx K) (qz (wA M ops j mj fr O nx fun fr O nx=>b fr O nx K) (wA M ops k mk fr O nx fun fr O nx=>c fr O nx K))
def ZkA(_:uu)(t:RunT):RunT:=fun fr O nx K=>eH (fun fr=>t fr O nx K) fr
noncomputable def wD (M:Mx)(ops:List Oper)(p:uu):RunT:=uu.rec (motive:=fun _=>RunT) Ob (Zky M ops) (Zkz M ops) (ZjA M ops) ZkA p
theorem qz.skip{M:Mx}{ops:List Oper}{i mi j mj k mk:Nat}{p:uu}{fr:Fr}{O:vX}{nx:Nat}{K:Fr->vX->Nat->Prop}(a b c s:Nat)
 (ha:wD M ops p ((b,YS)::(c,YS)::(a,YS)::(s, .bool false)::fr) O nx K->wA M ops i mi fr O nx fun fr O nx=>wD M ops (.take k mk (.take j mj (.join p))) fr O nx K)
 (hb:wD M ops p ((b,YS)::(c,YS)::(a,YS)::(s, .bool false)::fr) O nx K->wA M ops j mj fr O nx fun fr O nx=>wD M ops (.take i mi (.take k mk (.join p))) fr O nx K)
 (r:wD M ops p ((b,YS)::(c,YS)::(a,YS)::(s, .bool false)::fr) O nx K):
 qz (wA M ops i mi fr O nx fun fr O nx=>wD M ops (.take k mk (.take j mj (.join p))) fr O nx K) (wA M ops j mj fr O nx fun fr O nx=>wD M ops (.take i mi (.take k mk (.join p))) fr O nx K):=⟨ha r,hb r⟩
theorem wA.pass{M:Mx}{ops:List Oper}{i m:Nat}{fr:Fr}{O:vX}{nx:Nat}{K:Fr->vX->Nat->Prop}{o:Oper}{g s a:Nat}{e:Bool}
 (h1:nth ops i=some o) (h2:o.guard=some (g,true)) (h3:UL ops g=some s) (h4:u5 s fr=some (.bool e)) (he:e=false) (h5:o.dst=some a) (h6:Nat.blt a M.C.N=true)
 (h:K ((a,YS)::(s, .bool false)::fr) O nx):wA M ops i m fr O nx K:=by
 subst he;unfold wA;simp only[h1,h2,h3,h4,h5,JG,h6,wz];exact IF.ff h
theorem qz.pass{M:Mx}{ops:List Oper}{i mi j mj k mk:Nat}{p:uu}{fr:Fr}{O:vX}{nx:Nat}{K:Fr->vX->Nat->Prop}(a b c s:Nat){oi oj ok:Oper}{gi gj gk:Nat}{e:Bool}
 (hi:nth ops i=some oi) (hj:nth ops j=some oj) (hk:nth ops k=some ok)
 (ei:oi.guard=some (gi,true)) (ej:oj.guard=some (gj,true)) (ek:ok.guard=some (gk,true))
 (si:UL ops gi=some s) (sj:UL ops gj=some s) (sk:UL ops gk=some s)
 (di:oi.dst=some a) (dj:oj.dst=some b) (dk:ok.dst=some c)
 (ni:Nat.blt a M.C.N=true) (nj:Nat.blt b M.C.N=true) (nk:Nat.blt c M.C.N=true)
 (hf:u5 s fr=some (.bool e)) (he:e=false)
 (hd:(a≠s/\b≠s/\c≠s)/\a≠b/\a≠c/\b≠c)
 (r:wD M ops p ((b,YS)::(c,YS)::(a,YS)::(s, .bool false)::fr) O nx K):
 qz (wA M ops i mi fr O nx fun fr O nx=>wD M ops (.take k mk (.take j mj (.join p))) fr O nx K) (wA M ops j mj fr O nx fun fr O nx=>wD M ops (.take i mi (.take k mk (.join p))) fr O nx K):=by
 have l1:∀{v:SV} {t:Nat},t≠s->u5 s ((t,v)::(s, .bool false)::fr)=some (.bool false):=fun h=>by
  rw[Z8,z7 (fun h'=>h h'.symm),Z8,zf rfl]
 obtain⟨⟨a1,a2,a3⟩,hd2⟩:=id hd
 have l2:∀{v w:SV} {t u:Nat},t≠s->u≠s->u5 s ((t,v)::(s, .bool false)::(u,w)::(s, .bool false)::fr)=some (.bool false):=fun h _=>by
  rw[Z8,z7 (fun h'=>h h'.symm),Z8,zf rfl]
 constructor
 .refine wA.pass hi ei si hf he di ni ?_;show wA M ops k mk _ O nx fun fr O nx=>wD M ops (.take j mj (.join p)) fr O nx K
  refine wA.pass hk ek sk (l1 a1) rfl dk nk ?_;show wA M ops j mj _ O nx fun fr O nx=>wD M ops (.join p) fr O nx K
  refine wA.pass hj ej sj (l2 a3 a1) rfl dj nj ?_;exact eH.ij r hd
 .refine wA.pass hj ej sj hf he dj nj ?_;show wA M ops i mi _ O nx fun fr O nx=>wD M ops (.take k mk (.join p)) fr O nx K
  refine wA.pass hi ei si (l1 a2) rfl di ni ?_;show wA M ops k mk _ O nx fun fr O nx=>wD M ops (.join p) fr O nx K
  refine wA.pass hk ek sk (l2 a1 a2) rfl dk nk ?_;exact eH.ji r hd
def U0(acc:List Nat)(o:Oper):Nat:=o.after.foldl (fun s e=>if Region.binds .any e then s|||2^e.on|||acc.getD e.on 0 else s) 0
def oy:List Oper->List Nat->List Nat
 | [],acc=>acc
 |o::r,acc=>oy r (acc++ [U0 acc o])
def sM(i:Nat):Nat->List Nat->List Nat
 |0,l=>i::l
 |_,l=>l
def r6(m:Nat):Bool:=m==0||m==3
def ZG:uu->List Nat
 | .nil=>[]
 | .take i 0 t=>i::ZG t
 | .take _ _ t=>ZG t
 | .fork i mi j mj a b=>sM i mi (sM j mj (ZG a++ZG b))
 | .aB i mi j mj k mk a b c=>sM i mi (sM j mj (sM k mk (ZG a++(ZG b++ZG c))))
 | .join t=>ZG t
def Jg(ops:Array Oper)(ms:List Nat):uu->Array Bool->Bool
 | .nil,l=>(Region.ready .any ops l).isEmpty
 | .take i m rest,l=>
   (match m with
    |0=>Region.ready .any ops l==[i]
    |1=>(Region.ready .any ops l).contains i&&Region.free .any ops l i&& (ZG rest).all (fun k=>k !=i)
    |2=>(Region.ready .any ops l).contains i&&Region.free .any ops l i&& (ZG rest).all (fun k=>k !=i&& (ms.getD k 0).testBit i)
    |_=>Region.ready .any ops l==[i])&&
   Jg ops ms rest (l.setIfInBounds i true)
 | .fork i mi j mj a b,l=>Region.ready .any ops l==[i,j]&&r6 mi&&r6 mj&&a.depth==b.depth&&Jg ops ms a (l.setIfInBounds i true)&&Jg ops ms b (l.setIfInBounds j true)
 | .aB i mi j mj k mk a b c,l=>Region.ready .any ops l==[i,j,k]&&r6 mi&&r6 mj&&r6 mk&&a.depth==b.depth&&a.depth==c.depth&&Jg ops ms a (l.setIfInBounds i true)&&Jg ops ms b (l.setIfInBounds j true)&&Jg ops ms c (l.setIfInBounds k true)
 | .join t,l=>Jg ops ms t l
def Ds(ops:Array Oper)(steps:uu):Bool:=
 Region.noSelect ops&&steps.depth==ops.size&&Jg ops (oy ops.toList []) steps (Array.replicate ops.size false)
end Go.Sx
namespace Go.Sx
open Go
theorem N5:∀(os:List Oper) (acc:List Nat),(oy os acc).take acc.length=acc/\∀j o,os[j]?=some o->(oy os acc)[acc.length+j]?=some (U0 ((oy os acc).take (acc.length+j)) o)
 | [],acc=>⟨by simp[oy],fun j o h=>by simp at h⟩
 |o::os,acc=>by
  simp only[oy];obtain⟨h1,h2⟩:=N5 os (acc++ [U0 acc o]);simp only[zh,List.length_singleton]at h1 h2
  have h0:(oy os (acc++ [U0 acc o])).take acc.length=acc:=by
   have:=z8 (List.take acc.length) h1;rw[xT]at this;simpa using this
  refine⟨h0,fun j o' hj=>?_⟩;cases j with
  |zero=>
   simp at hj;subst hj;rw[Nat.add_zero,h0];have:=z8 (fun l:List Nat=>l[acc.length]?) h1;simpa[zS]using this
  |succ j=>
   have:=h2 j o' (by simpa using hj);rw[show acc.length+(j+1)=acc.length+1+j by omega];exact this
theorem Z4F{acc:List Nat}{o:Oper}{i:Nat}(h:(U0 acc o).testBit i=true):∃e∈o.after,Region.binds .any e=true/\(e.on=i\/(acc.getD e.on 0).testBit i=true):=by
 unfold U0 at h;rw[<-Array.foldl_toList]at h
 have key:∀(es:List Edge) (s:Nat),(es.foldl (fun s e=>if Region.binds .any e then s|||2^e.on|||acc.getD e.on 0 else s) s).testBit i=true->
  s.testBit i=true\/∃e∈es,Region.binds .any e=true/\(e.on=i\/(acc.getD e.on 0).testBit i=true):=by
  intro es
  induction es with
  |nil=>intro s h;exact .inl h
  |cons e es ih=>
   intro s h;simp only[List.foldl_cons]at h;rcases ih _ h with h|⟨e',he',h⟩
   .split at h
    .rename_i hb;simp only[Nat.testBit_or,yU]at h;rcases h with(h|h)|h
     exact .inl h
     .refine .inr ⟨e,zJ ..,hb, .inl ?_⟩;rw[Nat.testBit_two_pow]at h;simpa using h
     exact .inr ⟨e,zJ ..,hb, .inr h⟩
    exact .inl h
   exact .inr ⟨e',zK _ he',h⟩
 rcases key _ _ h with h|⟨e,he,h⟩
 simp at h;exact⟨e,by simpa using he,h⟩
theorem Z7y{ops:Array Oper}{l:Array Bool}(hc:qn .any ops l){i:Nat}:∀(k:Nat),((oy ops.toList []).getD k 0).testBit i=true->l.getD k false=true->l.getD i false=true:=by
 intro k
 induction k using Nat.strongRecOn with
 |_ k ih=>
  intro h hk;cases hg:(oy ops.toList [])[k]? with
  |none=>rw[zl,hg]at h;simp at h
  |some m=>
   have hlt:k<ops.size:=by
    rcases zY k ops.size with h'|h'
    exact h'
    .rw[<-hc.1]at h';simp[xM h']at hk
   have ho:ops[k]?=some ops[k]:=yL hlt;have hm:=(N5 ops.toList []).2 k ops[k] (by simp);simp only[List.length_nil,zx]at hm;rw[zl,hm,Option.getD_some]at h;obtain⟨e,he,hb,h⟩:=Z4F h;have bq:=hc.2 k _ ho hk e he hb;rcases h with rfl|h
   exact bq
   .rw[zl,zS]at h;split at h
    .rename_i hlt';exact ih e.on hlt' (by rw[zl];exact h) bq
    simp at h
def agree(w w':World):Prop:=∀k,k<w.heap.size->w'.heap[k]?=w.heap[k]?
theorem agree.refl(w:World):agree w w:=fun _ _=>rfl
theorem agree.trans{a b c:World}(h:agree a b)(k:agree b c):agree a c:=fun n hn=>by
 have h1:=h n hn
 have hlt:n<b.heap.size:=by
  rw[yL hn]at h1;exact(zA.1 h1).1
 rw[k n hlt,h1]
section
variable {M:Mx}{J:Env}{w:World}{O:vX}{nx:Nat}
theorem Dt{C:Cx}:∀{O:vX} {j:Nat},qv (.loc j) (Wk O++C.S)=Yn C O (.loc j)
 | [],j=>by simp[Wk,Yn,u5]
 |(i,h)::r,j=>by
  have ih:=Dt (C:=C) (O:=r) (j:=j);simp only[Wk,List.cons_append,qv,bA,Yn,u5];cases e:Nat.beq j i
  simp only[e];rw[ih];rfl;simp only[e]
theorem Du{C:Cx}{O:vX}{b:wq}:ez (iN C O) b=Yn C O b:=by
 cases b with
 |uH g=>rfl
 |loc j=>exact Dt
theorem vR.read(H:vR M J w O nx){w':World}(hag:agree w w'):vR (cI M O J w') J w' [] nx:=by
 refine⟨zu,H.len,⟨fun i h hi=>by simp[u5]at hi,fun i j h h' n hi=>by simp[u5]at hi⟩,qW.refl _ _,fun b h hb=>?_⟩;have hb':Yn M.C O b=some h:=by rw[<-Du];exact hb
 have u9:=H.look hb';have sN:∀k,vY J w b h k->w'.heap[k]?=w.heap[k]?:=fun k f=>hag _ (u9.uy f);have hs':=u9.keep sN;exact⟨hs',fun k f=>⟨hs'.uy f,fun h=>h⟩⟩
theorem vR.blind(hl:J.length=nx)(w:World):vR (K2 M J w) J w [] nx:=
 ⟨zu,hl,⟨fun i h hi=>by simp[u5]at hi,fun i j h h' n hi=>by simp[u5]at hi⟩,qW.refl _ _,fun b h hb=>by cases b<;>simp[K2,K1,ez,qv,u5]at hb⟩
theorem vR.join(H:vR M J w O nx){η':Env}{w':World}{O2:vX}{aY:Nat}(H2:vR (cI M O J w) η' w' O2 aY):vR M η' w' (O2++O) aY/\agree w w':=by
 have hag:agree w w':=fun k hk=>H2.fr.block k hk (fun h=>h);have hp:J<+:η':=H2.pre
 have old:∀{i:Nat} {h:Hp},u5 i O=some h->vT η' w' true (.loc i) h/\∀k,vY η' w' (.loc i) h k->vY J w (.loc i) h k/\k<w.heap.size:=by
  intro i h hi;obtain⟨u9,hF⟩:=H.own.1 i h hi;have hk:∀k,vY J w (.loc i) h k->w'.heap[k]?=w.heap[k]?:=fun k f=>hag _ (u9.uy f);refine⟨(u9.keep (w':=w') hk).mono hp,fun k f=>?_⟩;have f':=H.stands hp hi hk f;exact⟨f',u9.uy f'⟩
 refine⟨⟨H.pre.trans hp,H2.len,⟨fun i h hi=>?_,fun i j h h' k hi hj hij f f'=>?_⟩,H.fr.trans H2.fr (fun n hn=>hn.elim),H.wm⟩,hag⟩
 .rcases Jb hi with hi|⟨_,hi⟩
  .obtain⟨h1,h2⟩:=H2.own.1 i h hi;refine⟨h1,fun k f=> .inr ?_⟩;rcases h2 k f with h3|h3
   exact h3.elim;exact zO H.fr.size h3
  .obtain⟨h1,h2⟩:=old hi;exact⟨h1,fun k f=>(H.own.1 i h hi).2 k (h2 k f).1⟩
 .rcases Jb hi with hi|⟨_,hi⟩
  .rcases Jb hj with hj|⟨_,hj⟩
   exact H2.own.2 i j h h' k hi hj hij f f'
   .have h1:=((old hj).2 k f').2;rcases(H2.own.1 i h hi).2 k f with h3|h3
    exact h3.elim
    .have h3:w.heap.size<=k:=h3;omega
  .rcases Jb hj with hj|⟨_,hj⟩
   .have h1:=((old hi).2 k f).2;rcases(H2.own.1 j h' hj).2 k f' with h3|h3
    exact h3.elim
    .have h3:w.heap.size<=k:=h3;omega
   exact H.own.2 i j h h' k hi hj hij ((old hi).2 k f).1 ((old hj).2 k f').1
theorem Z9b{v:SV}{K:Prop}(h:Fl v K):aX v/\K:=by
 cases v with
 |agg cs=>
  simp only[Fl]at h;split at h
  rename_i e;exact⟨aX.of (by simpa only[jP]using e),h⟩;exact⟨h.p,h.k⟩
 |uz cs=>
  simp only[Fl]at h;split at h
  rename_i e;exact⟨aX.of (by simpa only[jP]using e),h⟩;exact⟨h.p,h.k⟩
 |_=>first|exact⟨h.p,h.k⟩|exact⟨aX.of rfl,h⟩
theorem N6{P:Program}{C':Cx}(hT:uC P C'.T){N:World->Prop}{o:Oper}{a:Act}{fr:Fr}{nx N0:Nat}{K:SV->Prop}(hf:kN J a fr)
 (hN:∀w',N w'->vR ⟨P,C',w',fun _=>False,J,none⟩ J w' [] nx) (hw:N w) (h:iO N0 C' o fr nx K):
 JG N0 o.dst=true/\∃u v,(∀w',N w'->(execOp a.eval o).run P w'= .ok (.value u) w'\/((execOp a.eval o).run P w'= .ok .skip w'/\u=undef))/\Den J v u/\K v:=by
 unfold iO at h;split at h
 exact h.out.elim;rename_i hd;refine⟨hd,?_⟩;split at h
 .rename_i x ho;split at h
  case h_2=>exact h.out.elim
  rename_i v hv;exact⟨a.eval x,v,fun w' _=> .inl (by simp[execOp,ho]),Yw hf hv,h⟩
 .rename_i x ho;split at h
  case h_2=>exact h.out.elim
  rename_i v hv;exact⟨a.eval x,v,fun w' _=> .inl (by simp[execOp,ho]),Yw hf hv,h⟩
 .split at h
  exact h.out.elim;rename_i hst;obtain⟨v,hok,h⟩:=ux.ay h;obtain⟨Dv,h⟩:=Z9b h
  have one:∀w',N w'->∃u,((execOp a.eval o).run P w'= .ok (.value u) w'\/((execOp a.eval o).run P w'= .ok .skip w'/\u=undef))/\Den J v u:=by
   intro w' hw';have H:=hN w' hw';obtain⟨u,w'',η'',h1,h2,h3,h4,h5⟩:=D2 (M:=⟨P,C',w',fun _=>False,J,none⟩) (w:=w') (ρ:=a.eval) ⟨H,hT,fun x sv hx=>Yw hf hx⟩ o (hok [] nx);have he:η''=J:=(h2.eq_of_length (by rw[H.len,h3.len])).symm;subst he;have hww:=h5 hst rfl;subst hww;exact⟨u,h1,h4⟩
  obtain⟨u,h1,h2⟩:=one w hw;refine⟨u,v,fun w' hw'=>?_,h2,h⟩;obtain⟨u',h3,h4⟩:=one w' hw';rw[Dv J u u' h2 h4];exact h3
end
def SS(ks:List Nat)(wc:World)(l:Array Bool)(w:World):Prop:=(∀k∈ks,l.getD k false=false)->agree wc w
section
variable {M:Mx}{ops:Array Oper}{Q:Exit->Act->World->Prop}
theorem XW{i m:Nat}{rest:uu}(h:m≠0):ZG (.take i m rest)=ZG rest:=by
 cases m with
 |zero=>exact(h rfl).elim
 |succ m=>rfl
theorem Z7z{i:Nat}{rest:uu}:ZG (.take i 0 rest)=i::ZG rest:=rfl
theorem Z0A{l:Array Bool}{i:Nat}(h:l.getD i true=false):l.getD i false=false:=by
 rcases zY i l.size with h'|h'
 simp[h']at h⊢;exact h;simp[xM h']at h
theorem Wl{J:Env}{fr:Fr}{O:vX}{nx:Nat}{a:Act}{w:World}(hm:u7 M J fr O nx a w){o:Oper}(hd:JG M.C.N o.dst=true){u:Value}{v:SV}(hv:Den J v u){Kp:Fr->Prop}(hk:wz o.dst v fr Kp):
 ∃fr',Kp fr'/\u7 M J fr' O nx (a.put o.dst u) w:=hm.put hd zu hm.heap hv hk
theorem Ui(hQ:∀c a w, ¬Q (.panic c) a w)(hs:Region.noSelect ops=true){i n:Nat}{o:Oper}{l:Array Bool}{ks:List Nat}(ho:ops[i]?=some o)(jw:i∈Region.ready .any ops l)(hfree:Region.free .any ops l i=true)(hne:∀k∈ks,k≠i)(hc:qn .any ops l)
 {N:World->Prop} {wc:World} (hN:∀l w,qn .any ops l->l.getD i true=false->SS ks wc l w->N w) {a:Act} {w:World} {u:Value} (hy:qd M.P ops N o u a) (hag:agree wc w)
 (h:dJ M.uo M.P .any ops Q (SS ks wc) n (l.setIfInBounds i true) (a.put o.dst u) w):dJ M.uo M.P .any ops Q (SS ks wc) (n+1) l a w:=by
 refine Zdu M.all ho (Region.noSelect_spec hs) (fun c a w hq=>(hQ _ _ _ hq).elim) hN (fun l' w' eY hun hr hS hk=>hS fun k hk'=>?_) n l a w hc (Region.free_spec ho hfree) jw hy (fun _=>hag) (fun _=>hag) h;rw[getD_set_ne false (yY (hne k hk'))];exact hk k hk'
theorem vR.drawn{J:Env}{w:World}{O:vX}{nx:Nat}(H:vR M J w O nx){n:Nat}(hn:w.drawn<=n):vR M J {w with drawn:=n} O nx:=
 ⟨H.pre,H.len,H.own.still rfl,⟨H.fr.os,H.fr.tape,H.fr.output,zO H.fr.drawn hn,H.fr.size,H.fr.block⟩,H.wm⟩
theorem N7{m:Nat}(h:r6 m=true):m=0\/m=3:=by
 unfold r6 at h;simpa using h
theorem ZM{i m:Nat}{l:List Nat}{x:Nat}(h:x∈l):x∈sM i m l:=by
 cases m with
 |zero=>exact zK _ h
 |succ m=>exact h
theorem Va{i:Nat}{l:List Nat}:i∈sM i 0 l:=zJ ..
theorem ZhW(hT:uC M.P M.C.T){i m:Nat}(K4:m=0\/m=3){fr:Fr}{O:vX}{nx:Nat}{Kn:Fr->vX->Nat->Prop}(h:wA M ops.toList i m fr O nx Kn){J:Env}{a:Act}{w:World}(hm:u7 M J fr O nx a w){R:Act->World->Prop}
 (hR:∀{fr:Fr} {O:vX} {nx:Nat} {J:Env} {a:Act} {w':World},Kn fr O nx->u7 M J fr O nx a w'->(m=3->agree w w')->R a w'):wpOpIn M.uo 0 M.P ops Q i R a w:=by
 unfold wA at h;split at h
 exact h.out.elim;rename_i o ho;have ho:ops[i]?=some o:=by rw[VL]at ho;simpa using ho
 have skip:∀{fr':Fr},u7 M J fr' O nx a w->Region.wanted o (yielded ops a.tmps)≠true->(match JG M.C.N o.dst with|true=>wz o.dst YS fr' fun fr=>Kn fr O nx|false=>uF "slot")->wpOpIn M.uo 0 M.P ops Q i R a w:=by
  intro fr' hm' hw h;split at h
  case h_2=>exact h.out.elim
  rename_i hd;obtain⟨fQ,h1,h2⟩:=Wl hm' hd (V8 J) h;unfold wpOpIn;simp only[ho];rw[z7 hw];exact⟨fun f _=>M.all f,hR h1 h2 fun _=>agree.refl w⟩
 have go:∀{fr':Fr},u7 M J fr' O nx a w->Region.wanted o (yielded ops a.tmps)=true->(K3 M m o fr' O nx fun v O nx=>wz o.dst v fr' fun fr=>Kn fr O nx)->wpOpIn M.uo 0 M.P ops Q i R a w:=by
  intro fr' hm' hw h;unfold wpOpIn;simp only[ho];rw[zf hw];rcases K4 with rfl|rfl
  .have h:oQ M o (V3 fr') O nx fun v O nx=>wz o.dst v fr' fun fr=>Kn fr O nx:=h;refine(Vx hT hm' (fun x sv hx=>Yw hm'.frame hx) h fun u v O' vW η' w' hd hp hH hv hk=>?_);obtain⟨fQ,h1,h2⟩:=hm'.put hd hp hH hv hk;exact hR h1 h2 fun h=>by cases h
  .have h:wh M o fr' O nx fun v O nx=>wz o.dst v fr' fun fr=>Kn fr O nx:=h;have hm2:u7 (cI M O J w) J fr' [] nx a w:=⟨hm'.heap.read (agree.refl w),hm'.size,hm'.fK,hm'.defers,hm'.ro,hm'.frame⟩;refine(Vx (M:=cI M O J w) hT hm2 (fun x sv hx=>Yw hm'.frame hx) (h.hout J w hm'.heap) fun u v O2 aY η' w' hd hp hH hv hk=>?_);obtain⟨hJ,aZ⟩:=hm'.heap.join hH;obtain⟨fQ,h1,h2⟩:=hm'.put hd hp hJ hv hk;exact hR h1 h2 fun _=>aZ
 split at h
 .rename_i hg;exact go hm (Ud hg) h
 .rename_i j want hg;split at h
  exact h.out.elim;rename_i s kL;split at h
  .rename_i b hb;have qg:=X3 (hm.frame s _ hb);have hy:=VY kL qg;cases b with
   |true=>
    have h:=h.t rfl;have hm':u7 M J ((s, .bool true)::fr) O nx a w:=hm.know hb rfl rfl qg;cases want with
    |true=>exact go hm' ((Zx hg).2 hy) h
    |false=>exact skip hm' (fun hw=>by rw[Zx hg,hy]at hw;cases hw) h
   |false=>
    have h:=h.f rfl;have hm':u7 M J ((s, .bool false)::fr) O nx a w:=hm.know hb rfl rfl qg;cases want with
    |false=>exact go hm' ((Zx hg).2 hy) h
    |true=>exact skip hm' (fun hw=>by rw[Zx hg,hy]at hw;cases hw) h
  .rename_i hb;have qg:=hm.frame s _ hb;simp only[Den,vV]at qg;obtain⟨vs,qg,rfl⟩:=qg;exact skip hm (fun hw=>by rw[Zx hg]at hw;exact Uc kL (by rw[qg];simp) hw) h
  exact h.out.elim
theorem arm(hT:uC M.P M.C.T){fk t:uu}{d:Nat}{fr:Fr}{O:vX}{nx:Nat}{K:Fr->vX->Nat->Prop}{J:Env}{a:Act}{w wc:World}{l:Array Bool}(hm:u7 M J fr O nx a w)(hag:agree wc w)(hc:qn .any ops l)
 {x m:Nat} (hmo:r6 m=true) (hx:x∈Region.ready .any ops l) (Fm:m=0->x∈ZG fk) (hsub:∀k∈ZG t,k∈ZG fk) (hd:t.depth=d)
 (ih:∀{fr:Fr} {O:vX} {nx:Nat} {J:Env} {a:Act} {w wc:World},wD M ops.toList t fr O nx K->u7 M J fr O nx a w->agree wc w->dJ M.uo M.P .any ops Q (SS (ZG t) wc) t.depth (l.setIfInBounds x true) a w)
 (hrun:wA M ops.toList x m fr O nx fun fr O nx=>wD M ops.toList t fr O nx K):
 wpOpIn M.uo 0 M.P ops Q x (fun a' w'=>SS (ZG fk) wc (l.setIfInBounds x true) w'/\dJ M.uo M.P .any ops Q (SS (ZG fk) wc) d (l.setIfInBounds x true) a' w') a w:=by
 have hin:x<l.size:=by
  obtain⟨h1,o,ho,_⟩:=mem_ready.1 hx;rw[hc.1];exact(zA.1 ho).1
 have wK:(l.setIfInBounds x true).getD x false=true:=by simp[hin]
 refine ZhW hT (N7 hmo) hrun hm fun{fr O nx J a w'} hk hm' sN=>?_;rcases N7 hmo with h0|h3
 .have hno:∀l' w',fT (l.setIfInBounds x true) l'->SS (ZG fk) wc l' w':=by
   intro l' w' hg hk;have h1:=hk x (Fm h0);rw[hg x wK]at h1;cases h1
  refine⟨hno _ _ (fun _ h=>h),?_⟩;have:=ih hk hm' (agree.refl _);rw[hd]at this;exact QY (l0:=l.setIfInBounds x true) (fun l' w' hg _=>hno l' w' hg) _ _ _ _ (fun _ h=>h) this
 .have aZ:agree wc w':=hag.trans (sN h3);refine⟨fun _=>aZ,?_⟩;have:=ih hk hm' aZ;rw[hd]at this;exact QY (l0:=l.setIfInBounds x true) (fun l' w'' hg hS hk=>hS fun k hkt=>hk k (hsub k hkt)) _ _ _ _ (fun _ h=>h) this
theorem XH(hT:uC M.P M.C.T)(hQ:∀c a w, ¬Q (.panic c) a w)(hs:Region.noSelect ops=true):∀(steps:uu) {fr:Fr} {O:vX} {nx:Nat} {K:Fr->vX->Nat->Prop},wD M ops.toList steps fr O nx K->
 ∀{l:Array Bool},Jg ops (oy ops.toList []) steps l=true->qn .any ops l->∀{J:Env} {a:Act} {w:World},u7 M J fr O nx a w->(∀J fr O nx a w,u7 M J fr O nx a w->K fr O nx->Q .normal a w)->
 ∀{wc:World},agree wc w->dJ M.uo M.P .any ops Q (SS (ZG steps) wc) steps.depth l a w
 | .nil,fr,O,nx,K,h,l,hl,hc,J,a,w,hm,hq,wc,hag=>by
   simp only[Jg,List.isEmpty_iff]at hl;exact⟨hl,hq J fr O nx a w hm h⟩
 | .take i m rest,fr,O,nx,K,h,l,hl,hc,J,a,w,hm,hq,wc,hag=>by
   have IH:= @XH hT hQ hs rest
   replace h:wA M ops.toList i m fr O nx (fun fr O nx=>wD M ops.toList rest fr O nx K):=h
   unfold wA at h;split at h
   exact h.out.elim;rename_i o ho;have ho:ops[i]?=some o:=by rw[VL]at ho;simpa using ho
   simp only[Jg,zj]at hl;obtain⟨kz,nQ⟩:=hl
   have jw:i∈Region.ready .any ops l:=by
    revert kz;split<;>intro kz
    rw[xh.1 kz];exact zI.2 rfl;simp only[zj]at kz;simpa using kz.1.1;simp only[zj]at kz;simpa using kz.1.1;rw[xh.1 kz];exact zI.2 rfl
   have eY:=hc.set jw;have hin:i<l.size:=by rw[hc.1];exact(zA.1 ho).1
   have wK:(l.setIfInBounds i true).getD i false=true:=by simp[hin]
   have r7:∀{p:Prop},(m=0->p)->(m=1->p)->(m=2->p)->(3<=m->p)->p:=by
    intro p h0 h1 h2 h3
    match m,h0,h1,h2,h3 with
    |0,h0,_,_,_=>exact h0 rfl
    |1,_,h1,_,_=>exact h1 rfl
    |2,_,_,h2,_=>exact h2 rfl
    |m+3,_,_,_,h3=>exact h3 (by omega)
   have alone:Region.ready .any ops l=[i]->∀{a:Act} {w:World},agree wc w->wpOpIn M.uo 0 M.P ops Q i (fun a' w'=>SS (ZG (.take i m rest)) wc (l.setIfInBounds i true) w'/\dJ M.uo M.P .any ops Q (SS (ZG (.take i m rest)) wc) rest.depth (l.setIfInBounds i true) a' w') a w->
    dJ M.uo M.P .any ops Q (SS (ZG (.take i m rest)) wc) (uu.take i m rest).depth l a w:=fun hr a w hag h=>ZhV hr h
   have eZ:m=0->∀{fr:Fr} {O:vX} {nx:Nat} {J:Env} {a:Act} {w:World},wD M ops.toList rest fr O nx K->u7 M J fr O nx a w->
    SS (ZG (.take i m rest)) wc (l.setIfInBounds i true) w/\dJ M.uo M.P .any ops Q (SS (ZG (.take i m rest)) wc) rest.depth (l.setIfInBounds i true) a w:=by
    intro h0 fr O nx J a w hrun hm;subst h0;rw[Z7z]
    have hno:∀l' w',fT (l.setIfInBounds i true) l'->SS (i::ZG rest) wc l' w':=by
     intro l' w' hg hk;have h1:=hk i (zJ ..);rw[hg i wK]at h1;cases h1
    exact⟨hno _ _ (fun _ h=>h),QY (l0:=l.setIfInBounds i true) (fun l' w' hg _=>hno l' w' hg) _ _ _ _ (fun _ h=>h) (IH hrun nQ eY hm hq (agree.refl w))⟩
   have kf:m≠0->∀{fr:Fr} {O:vX} {nx:Nat} {J:Env} {a:Act} {w:World},wD M ops.toList rest fr O nx K->u7 M J fr O nx a w->agree wc w->
    SS (ZG (.take i m rest)) wc (l.setIfInBounds i true) w/\dJ M.uo M.P .any ops Q (SS (ZG (.take i m rest)) wc) rest.depth (l.setIfInBounds i true) a w:=by
    intro h0 fr O nx J a w hrun hm hag;rw[XW h0];exact⟨fun _=>hag,IH hrun nQ eY hm hq hag⟩
   have dK:m=1->Region.free .any ops l i=true/\∀k∈ZG rest,k≠i:=by
    intro h1;subst h1;simp only[zj,zT,bne_iff_ne]at kz;exact⟨kz.1.2,kz.2⟩
   have fU:m=2->Region.free .any ops l i=true/\∀k∈ZG rest,k≠i/\((oy ops.toList []).getD k 0).testBit i=true:=by
    intro h1;subst h1;simp only[zj,zT,bne_iff_ne]at kz;exact⟨kz.1.2,kz.2⟩
   have pP:m=0->Region.ready .any ops l=[i]:=by intro h1;subst h1;exact xh.1 kz
   have pQ:3<=m->Region.ready .any ops l=[i]:=by
    intro h1
    match m,h1,kz with
    |m+3,_,kz=>exact xh.1 kz
   have skip:∀{fr':Fr},u7 M J fr' O nx a w->Region.wanted o (yielded ops a.tmps)≠true->(match JG M.C.N o.dst with|true=>wz o.dst YS fr' fun fr=>wD M ops.toList rest fr O nx K|false=>uF "slot")->
    dJ M.uo M.P .any ops Q (SS (ZG (.take i m rest)) wc) (uu.take i m rest).depth l a w:=by
    intro fr' hm' hw h;split at h
    case h_2=>exact h.out.elim
    rename_i hd;obtain⟨fQ,h1,h2⟩:=Wl hm' hd (V8 J) h;have hwf:Region.wanted o (yielded ops a.tmps)=false:=by simpa using hw
    have op:∀{K':Act->World->Prop},K' (a.put o.dst undef) w->wpOpIn M.uo 0 M.P ops Q i K' a w:=by
     intro K' hk;unfold wpOpIn;simp only[ho];rw[z7 hw];exact⟨fun f _=>M.all f,hk⟩
    refine r7 (fun h0=>alone (pP h0) hag (op (eZ h0 h1 h2))) (fun h0=>?_) (fun h0=>?_) (fun h0=>alone (pQ h0) hag (op (kf (by omega) h1 h2 hag)))
    .have hn:m≠0:=by omega
     have:=(kf hn h1 h2 hag).2;rw[XW hn]at this⊢;exact Ui hQ hs ho jw (dK h0).1 (dK h0).2 hc (N:=fun _=>True) (fun _ _ _ _ _=>trivial) (.inr ⟨hwf,rfl⟩) hag this
    .have hn:m≠0:=by omega
     have:=(kf hn h1 h2 hag).2;rw[XW hn]at this⊢;exact Ui hQ hs ho jw (fU h0).1 (fun k hk=>((fU h0).2 k hk).1) hc (N:=fun _=>True) (fun _ _ _ _ _=>trivial) (.inr ⟨hwf,rfl⟩) hag this
   have go:∀{fr':Fr},u7 M J fr' O nx a w->Region.wanted o (yielded ops a.tmps)=true->(K3 M m o fr' O nx fun v O nx=>wz o.dst v fr' fun fr=>wD M ops.toList rest fr O nx K)->
    dJ M.uo M.P .any ops Q (SS (ZG (.take i m rest)) wc) (uu.take i m rest).depth l a w:=by
    intro fr' hm' hw h
    have op:∀{K':Act->World->Prop},o.wpIn M.uo 0 M.P a w K' Q->wpOpIn M.uo 0 M.P ops Q i K' a w:=by
     intro K' hk;unfold wpOpIn;simp only[ho];rw[zf hw];exact hk
    refine r7 (fun h0=>?_) (fun h0=>?_) (fun h0=>?_) (fun h0=>?_)
    .have h:oQ M o (V3 fr') O nx fun v O nx=>wz o.dst v fr' fun fr=>wD M ops.toList rest fr O nx K:=by subst h0;exact h
     refine alone (pP h0) hag (op (Vx hT hm' (fun x sv hx=>Yw hm'.frame hx) h fun u v O' vW η' w' hd hp hH hv hk=>?_));obtain⟨fQ,h1,h2⟩:=hm'.put hd hp hH hv hk;exact eZ h0 h1 h2
    .have h:iO M.C.N (K1 M.C) o fr' nx fun v=>wz o.dst v fr' fun fr=>wD M ops.toList rest fr O nx K:=by subst h0;exact h
     obtain⟨hd,u,v,hy,hv,hk⟩:=N6 (P:=M.P) (C':=K1 M.C) ⟨hT.qC,hT.info,hT.zero,hT.lM,hT.flat,hT.key⟩ (N:=fun _=>True) (w:=w) hm'.frame (fun w' _=>vR.blind (M:=M) hm'.heap.len w') trivial h;obtain⟨fQ,h1,h2⟩:=Wl hm' hd hv hk;have hn:m≠0:=by omega
     have:=(kf hn h1 h2 hag).2;rw[XW hn]at this⊢;exact Ui hQ hs ho jw (dK h0).1 (dK h0).2 hc (N:=fun _=>True) (fun _ _ _ _ _=>trivial) (.inl ⟨hw,fun w' h=>hy w' h⟩) hag this
    .have h:iO M.C.N (iN M.C O) o fr' nx fun v=>wz o.dst v fr' fun fr=>wD M ops.toList rest fr O nx K:=by subst h0;exact h
     obtain⟨hd,u,v,hy,hv,hk⟩:=N6 (P:=M.P) (C':=iN M.C O) hT (N:=agree w) hm'.frame (fun w' h=>hm'.heap.read h) (agree.refl w) h;obtain⟨fQ,h1,h2⟩:=Wl hm' hd hv hk;have hn:m≠0:=by omega
     have:=IH h1 nQ eY h2 hq (agree.refl w);rw[XW hn];refine QY (S':=SS (ZG rest) w) (l0:=l) (fun l' w' _ hS hk=>hag.trans (hS hk)) _ _ _ _ (fun _ h=>h) ?_;refine Ui hQ hs ho jw (fU h0).1 (fun k hk=>((fU h0).2 k hk).1) hc (N:=agree w) (fun l' w' kg hun hS=>hS fun k hk=>?_) (.inl ⟨hw,fun w' h=>hy w' h⟩) (agree.refl w) this;cases hlk:l'.getD k false with
     |false=>rfl
     |true=>
      have:=Z7y kg k ((fU h0).2 k hk).2 hlk;rw[Z0A hun]at this;cases this
    .have h:wh M o fr' O nx fun v O nx=>wz o.dst v fr' fun fr=>wD M ops.toList rest fr O nx K:=by
      match m,h0,h with
      |m+3,_,h=>exact h
     have hm2:u7 (cI M O J w) J fr' [] nx a w:=⟨hm'.heap.read (agree.refl w),hm'.size,hm'.fK,hm'.defers,hm'.ro,hm'.frame⟩;refine alone (pQ h0) hag (op (Vx (M:=cI M O J w) hT hm2 (fun x sv hx=>Yw hm'.frame hx) (h.hout J w hm'.heap) fun u v O2 aY η' w' hd hp hH hv hk=>?_));obtain⟨hJ,aZ⟩:=hm'.heap.join hH;obtain⟨fQ,h1,h2⟩:=hm'.put hd hp hJ hv hk;exact kf (by omega) h1 h2 (hag.trans aZ)
   split at h
   .rename_i hg;exact go hm (Ud hg) h
   .rename_i j want hg;split at h
    exact h.out.elim;rename_i s kL;split at h
    .rename_i b hb;have qg:=X3 (hm.frame s _ hb);have hy:=VY kL qg;cases b with
     |true=>
      have h:=h.t rfl;have hm':u7 M J ((s, .bool true)::fr) O nx a w:=hm.know hb rfl rfl qg;cases want with
      |true=>exact go hm' ((Zx hg).2 hy) h
      |false=>exact skip hm' (fun hw=>by rw[Zx hg,hy]at hw;cases hw) h
     |false=>
      have h:=h.f rfl;have hm':u7 M J ((s, .bool false)::fr) O nx a w:=hm.know hb rfl rfl qg;cases want with
      |false=>exact go hm' ((Zx hg).2 hy) h
      |true=>exact skip hm' (fun hw=>by rw[Zx hg,hy]at hw;cases hw) h
    .rename_i hb;have qg:=hm.frame s _ hb;simp only[Den,vV]at qg;obtain⟨vs,qg,rfl⟩:=qg;exact skip hm (fun hw=>by rw[Zx hg]at hw;exact Uc kL (by rw[qg];simp) hw) h
    exact h.out.elim
 | .fork i mi j mj p q,fr,O,nx,K,h,l,hl,hc,J,a,w,hm,hq,wc,hag=>by
   simp only[Jg,zj,xh]at hl;obtain⟨⟨⟨⟨⟨hr,Dw⟩,sP⟩,sQ⟩,hlp⟩,sR⟩:=hl
   replace h:qz (wA M ops.toList i mi fr O nx fun fr O nx=>wD M ops.toList p fr O nx K) (wA M ops.toList j mj fr O nx fun fr O nx=>wD M ops.toList q fr O nx K):=h
   have hi:i∈Region.ready .any ops l:=by rw[hr];simp
   have hj:j∈Region.ready .any ops l:=by rw[hr];simp
   refine⟨fun h0=>(by rw[hr]at h0;cases h0),fun x hx=>?_⟩;rw[hr]at hx;rcases zL.1 hx with rfl|hx
   exact arm hT hm hag hc Dw hi (fun h0=>by subst h0;exact Va) (fun k hk=>ZM (ZM (vu _ hk))) rfl (fun hk hm' hag=>XH hT hQ hs p hk hlp (hc.set hi) hm' hq hag) h.a
   .have hx:=zI.1 hx;subst hx;exact arm hT hm hag hc sP hj (fun h0=>by subst h0;exact ZM Va) (fun k hk=>ZM (ZM (xP _ hk))) sQ.symm (fun hk hm' hag=>XH hT hQ hs q hk sR (hc.set hj) hm' hq hag) h.b
 | .aB i mi j mj k mk p q r,fr,O,nx,K,h,l,hl,hc,J,a,w,hm,hq,wc,hag=>by
   simp only[Jg,zj,xh]at hl;obtain⟨⟨⟨⟨⟨⟨⟨⟨hr,Dw⟩,sP⟩,hmk⟩,sQ⟩,K5⟩,hlp⟩,sR⟩,hlr⟩:=hl
   replace h:qz (wA M ops.toList i mi fr O nx fun fr O nx=>wD M ops.toList p fr O nx K) (qz (wA M ops.toList j mj fr O nx fun fr O nx=>wD M ops.toList q fr O nx K) (wA M ops.toList k mk fr O nx fun fr O nx=>wD M ops.toList r fr O nx K)):=h
   have hi:i∈Region.ready .any ops l:=by rw[hr];simp
   have hj:j∈Region.ready .any ops l:=by rw[hr];simp
   have hk':k∈Region.ready .any ops l:=by rw[hr];simp
   refine⟨fun h0=>(by rw[hr]at h0;cases h0),fun x hx=>?_⟩;rw[hr]at hx;rcases zL.1 hx with rfl|hx
   exact arm hT hm hag hc Dw hi (fun h0=>by subst h0;exact Va) (fun k hk=>ZM (ZM (ZM (vu _ hk)))) rfl (fun hk hm' hag=>XH hT hQ hs p hk hlp (hc.set hi) hm' hq hag) h.a
   .rcases zL.1 hx with rfl|hx
    exact arm hT hm hag hc sP hj (fun h0=>by subst h0;exact ZM Va) (fun k hk=>ZM (ZM (ZM (xP _ (vu _ hk))))) sQ.symm (fun hk hm' hag=>XH hT hQ hs q hk sR (hc.set hj) hm' hq hag) h.b.a
    .have hx:=zI.1 hx;subst hx;exact arm hT hm hag hc hmk hk' (fun h0=>by subst h0;exact ZM (ZM Va)) (fun k hk=>ZM (ZM (ZM (xP _ (xP _ hk))))) K5.symm (fun hk hm' hag=>XH hT hQ hs r hk hlr (hc.set hk') hm' hq hag) h.b.b
 | .join p,fr,O,nx,K,h,l,hl,hc,J,a,w,hm,hq,wc,hag=>by
   replace h:eH (fun fr=>wD M ops.toList p fr O nx K) fr:=h
   obtain⟨fr',he,h⟩:=h.out;have hm':u7 M J fr' O nx a w:=⟨hm.heap,hm.size,hm.fK,(by rw[he];exact hm.defers),hm.ro,fun t sv ht=>hm.frame t sv (by rw[<-he];exact ht)⟩;exact XH hT hQ hs p h hl hc hm' hq hag
theorem uq.of{M:Mx}(hT:uC M.P M.C.T)(hP:M.P.follows .mixedOrders=true){id:Nat}{ops:Array Oper}{fr:Fr}{O:vX}{nx:Nat}{Q:Post}(steps:uu)(o4:Ds ops steps=true)
 (h:wD M ops.toList steps fr O nx fun fr O nx=>Q .normal fr O nx):uq M id ops fr O nx Q:=by
 simp only[Ds,zj,xh]at o4;obtain⟨⟨hs,hlen⟩,o4⟩:=o4;refine⟨fun J a w hm=>Code.wpIn_mono (Q:=fun e a w=>(∀ch,e≠ .panic ch)/\iC M Q e a w) (fun e a w h=>h.2) (wpIn_region_any hP (PZ (S:=SS (ZG steps) {w with drawn:=w.drawn+1}) _ _ _ _ ?_))⟩;have hm':u7 M J fr O nx a {w with drawn:=w.drawn+1}:=⟨hm.heap.drawn (Nat.le_succ _),hm.size,hm.fK,hm.defers,hm.ro,hm.frame⟩
 have hc0:qn .any ops (Array.replicate ops.size false):=by
  refine⟨by simp,fun j o hj hl=>?_⟩;rcases zY j ops.size with h'|h'
  simp[h']at hl;simp[h']at hl
 have key:=XH (Q:=fun e a w=>(∀ch,e≠ .panic ch)/\iC M Q e a w) hT (fun c a w hq=>hq.1 c rfl) hs steps h o4 hc0 hm' (fun J fr O nx a w hm hq=>⟨(fun ch he=>by cases he),J,fr,O,nx,hm,hq⟩) (agree.refl _);rw[hlen]at key;exact key
end
section
variable {σ:Nat->Nat}{k:Nat}
theorem Wm(h:∀j,j<k->σ j=j):∀{b:wq},WJ k b=true->uS σ b=b
 | .uH g,_=>rfl
 | .loc i,hb=>by simp only[WJ,yR]at hb;simp only[uS,h i hb]
mutual
theorem U1(h:∀j,j<k->σ j=j):∀{v:SV},ZV k v=true->ur σ v=v
 | .bool _,_=>rfl
 | .int _ _,_=>rfl
 | .str _,_=>rfl
 | .val _,_=>rfl
 | .any,_=>rfl
 | .nb _,_=>rfl
 | .jJ l,hb=>by simp only[ZV]at hb;simp only[ur,Xj h hb]
 | .yf b,hb=>by simp only[ZV]at hb;simp only[ur,Wm h hb]
 | .mp b,hb=>by simp only[ZV]at hb;simp only[ur,Wm h hb]
 | .ptr b _ _ _,hb=>by simp only[ZV]at hb;simp only[ur,Wm h hb]
 | .sl b _ _ _ _,hb=>by simp only[ZV]at hb;simp only[ur,Wm h hb]
 | .agg cs,hb=>by simp only[ZV]at hb;simp only[ur,Xj h hb]
 | .arr _ rs,hb=>by simp only[ZV]at hb;simp only[ur,Vb h hb]
 | .uz vs,hb=>by simp only[ZV]at hb;simp only[ur,Xj h hb]
 | .fH _ v,hb=>by simp only[ZV]at hb;simp only[ur,U1 h hb]
 | .fn _ a b,hb=>by simp only[ZV,zj]at hb;simp only[ur,Xj h hb.1,Xj h hb.2]
theorem Xj(h:∀j,j<k->σ j=j):∀{vs:List SV},ZR k vs=true->uJ σ vs=vs
 | [],_=>rfl
 |c::cs,hb=>by simp only[ZR,zj]at hb;simp only[uJ,U1 h hb.1,Xj h hb.2]
theorem Vb(h:∀j,j<k->σ j=j):∀{vs:List (List SV)},Ys k vs=true->Xn σ vs=vs
 | [],_=>rfl
 |c::cs,hb=>by simp only[Ys,zj]at hb;simp only[Xn,Xj h hb.1,Vb h hb.2]
end
theorem Nw(h:∀j,j<k->σ j=j):∀{fr:Fr},WK k fr=true->kR σ fr=fr
 | [],_=>rfl
 |(t,v)::r,hb=>by
  simp only[WK,zj]at hb;simp only[kR,U1 h hb.1,Nw h hb.2]
theorem ZbN(h:∀j,j<k->σ j=j):∀{c:DC},mF k c=true->gh σ c=c
 | .v s,hb=>by simp only[mF]at hb;simp only[gh,U1 h hb]
 | .uA _ rs,hb=>by simp only[mF]at hb;simp only[gh,Vb h hb]
theorem Nx(h:∀j,j<k->σ j=j):∀{r:List DC},Xz k r=true->ax σ r=r
 | [],_=>rfl
 |c::cs,hb=>by simp only[Xz,zj]at hb;simp only[ax,ZbN h hb.1,Nx h hb.2]
theorem Ny(h:∀j,j<k->σ j=j):∀{r:List (List DC)},Yy k r=true->XG σ r=r
 | [],_=>rfl
 |c::cs,hb=>by simp only[Yy,zj]at hb;simp only[XG,Nx h hb.1,Ny h hb.2]
theorem Wn(h:∀j,j<k->σ j=j):∀{hp:Hp},Zh k hp=true->um σ hp=hp
 | .deep _ _ _,hb=>by simp only[Zh]at hb;simp only[um,Ny h hb]
 | .box _,hb=>by simp only[Zh]at hb;simp only[um,Xj h hb]
 | .rows _ _,hb=>by simp only[Zh]at hb;simp only[um,Vb h hb]
 | .wu _ _,_=>rfl
 | .dY _,_=>rfl
 | .kV _ _ _,_=>rfl
 | .jV _,_=>rfl
 | .lp _ _ fr,hb=>by simp only[Zh]at hb;simp only[um,Nw h hb]
 | .mp _,hb=>by simp only[Zh]at hb;simp only[um,Vb h hb]
theorem Nz(h:∀j,j<k->σ j=j):∀{O:vX},Zl k O=true->qa σ O=O
 | [],_=>rfl
 |(i,hp)::r,hb=>by
  simp only[Zl,zj,yR]at hb;simp only[qa,h i hb.1,Wn h hb.2.1,Nz h hb.2.2]
end
variable {M:Mx}{fr fr':Fr}{O O':vX}{nx:Nat}
theorem ZdH{k i:Nat}(h:i<k):(List.range k).getD i 0=i:=by simp[List.getD,h]
theorem Z9g{k nx j:Nat}(h:j<k):Zm (List.range k) nx j=j:=by
 simp only[Zm,yE,zf h,ZdH h]
def gK(O:vX):vX->Prop
 | []=>True
 |(i,h)::r=>match u5 i O with
  |some g=>g=h/\gK O r
  |none=>False
def fV(C:Cx)(O:vX):vX->Prop
 | []=>True
 |(i,h)::r=>match Yn C O (.loc i)with
  |some g=>g=h/\fV C O r
  |none=>False
theorem gK.at{O:vX}:∀{Oc:vX},gK O Oc->∀p∈Oc,u5 p.1 O=some p.2
 | [],_,p,hp=>by cases hp
 |(i,h)::r,hs,p,hp=>by
  simp only[gK]at hs;split at hs
  .rename_i g hg;obtain⟨rfl,hs⟩:=hs;rcases zL.1 hp with rfl|hp
   exact hg;exact gK.at hs p hp
  exact hs.elim
theorem fV.at{C:Cx}{O:vX}:∀{Sc:vX},fV C O Sc->∀p∈Sc,Yn C O (.loc p.1)=some p.2
 | [],_,p,hp=>by cases hp
 |(i,h)::r,hs,p,hp=>by
  simp only[fV]at hs;split at hs
  .rename_i g hg;obtain⟨rfl,hs⟩:=hs;rcases zL.1 hp with rfl|hp
   exact hg;exact fV.at hs p hp
  exact hs.elim
theorem Xk{k:Nat}:∀{O:vX},Zl k O=true->∀p∈O,p.1<k/\Zh k p.2=true
 | [],_,p,hp=>by cases hp
 |(i,h)::r,hb,p,hp=>by
  simp only[Zl,zj,yR]at hb;rcases zL.1 hp with rfl|hp
  exact⟨hb.1,hb.2.1⟩;exact Xk hb.2.2 p hp
theorem Xl{k:Nat}:∀{O:vX},Zl k O=true->∀j∈Zb O,j<k
 | [],_,j,hj=>by cases hj
 |(i,h)::r,hb,j,hj=>by
  simp only[Zl,zj,yR]at hb;rcases zL.1 hj with rfl|hj
  exact hb.1;exact Xl hb.2.2 j hj
theorem NA{f:Nat->Nat}:∀{l:List Nat},(∀j∈l,f j=j)->l.map f=l
 | [],_=>rfl
 |x::l,h=>by simp only[zG,h x (zJ ..),NA fun j hj=>h j (zK _ hj)]
theorem Fw:∀{S:vX} {p:Nat×Hp},p∈S->p.1∈Zb S
 | [],p,hp=>by cases hp
 |(i,h)::S,p,hp=>by
  rcases zL.1 hp with rfl|hp
  exact zJ ..;exact zK _ (Fw hp)
theorem CALL.here{f:FuncId}{args:List SV}{K:SV->vX->Nat->Prop}{k:Nat}{Oc Sc:vX}{Q:SV->vX->Nat->Prop}(sp:vS M.P M.C.T f k args Oc Sc Q)
 (hk:Nat.ble k nx=true) (hb:ZR k args=true) (er:Zl k Oc=true) (oz:Zl k Sc=true) (hO:gK O Oc) (hS:fV M.C O Sc)
 (hd:(Zb Sc).all (fun j=>!((Zb Oc).any (Nat.beq j)))=true)
 (hQ:∀r O' vW,Q r O' vW->vW=k/\ZV k r=true/\Zl k O'=true)
 (hK:∀r O',Q r O' k->K r (O'++ZY (Zb Oc) O) nx):CALL M f args O nx K:=by
 have hk:=zU hk;have hσ:∀j,j<k->Zm (List.range k) nx j=j:=fun j hj=>Z9g hj;have pX:(Zb Oc).map (Zm (List.range k) nx)=Zb Oc:=NA fun j hj=>hσ j (Xl er j hj);refine CALL.of (List.range k) sp (by simp) (fun i hi=>by have:=yj.1 hi;omega) (Xj hσ hb).symm hb ?_ ?_ ?_ ?_
 .intro p hp;obtain⟨h1,h2⟩:=Xk er p hp;exact⟨h1,by rw[hσ _ h1,Wn hσ h2];exact hO.at p hp,h2⟩
 .intro j hj j' hj' he;rwa [hσ j (Xl er j hj),hσ j' (Xl er j' hj')]at he
 .intro p hp;obtain⟨h1,h2⟩:=Xk oz p hp;refine⟨h1,by rw[hσ _ h1,Wn hσ h2];exact hS.at p hp,h2,?_⟩;rw[pX,hσ _ h1];intro hm;have hj:p.1∈Zb Sc:=Fw hp;have:=zT.1 hd _ hj;simp only[Bool.not_eq_eq_eq_not,xY]at this;have h3:(Zb Oc).any (Nat.beq p.1)=true:=xH.2 ⟨p.1,hm,Xh _⟩;rw[h3]at this;cases this
 .intro r O' vW hq;obtain⟨rfl,h1,h2⟩:=hQ r O' vW hq;have:=hK r O' hq;rw[U1 hσ h1,Nz hσ h2,pX];simpa using this
def qF(σ:Nat->Nat)(O:vX):vX->Prop
 | []=>True
 |(i,h)::r=>match u5 (σ i) O with
  |some g=>g=um σ h/\qF σ O r
  |none=>False
def ku(C:Cx)(σ:Nat->Nat)(O:vX):vX->Prop
 | []=>True
 |(i,h)::r=>match Yn C O (.loc (σ i))with
  |some g=>g=um σ h/\ku C σ O r
  |none=>False
theorem qF.at{σ:Nat->Nat}{O:vX}:∀{Oc:vX},qF σ O Oc->∀p∈Oc,u5 (σ p.1) O=some (um σ p.2)
 | [],_,p,hp=>by cases hp
 |(i,h)::r,hs,p,hp=>by
  simp only[qF]at hs;split at hs
  .rename_i g hg;obtain⟨rfl,hs⟩:=hs;rcases zL.1 hp with rfl|hp
   exact hg;exact qF.at hs p hp
  exact hs.elim
theorem ku.at{C:Cx}{σ:Nat->Nat}{O:vX}:∀{Sc:vX},ku C σ O Sc->∀p∈Sc,Yn C O (.loc (σ p.1))=some (um σ p.2)
 | [],_,p,hp=>by cases hp
 |(i,h)::r,hs,p,hp=>by
  simp only[ku]at hs;split at hs
  .rename_i g hg;obtain⟨rfl,hs⟩:=hs;rcases zL.1 hp with rfl|hp
   exact hg;exact ku.at hs p hp
  exact hs.elim
theorem CALL.at{f:FuncId}{args uD:List SV}{K:SV->vX->Nat->Prop}{k:Nat}{Oc Sc:vX}{Q:SV->vX->Nat->Prop}(L:List Nat)(sp:vS M.P M.C.T f k uD Oc Sc Q)
 (hL:L.length=k) (eG:L.all (fun i=>Nat.blt i nx)=true) (ha:args=uJ (Zm L nx) uD) (hb:ZR k uD=true) (er:Zl k Oc=true) (oz:Zl k Sc=true) (hO:qF (Zm L nx) O Oc) (hS:ku M.C (Zm L nx) O Sc)
 (hinj:(Zb Oc).all (fun j=>(Zb Oc).all fun j'=>!(Nat.beq (Zm L nx j) (Zm L nx j'))||Nat.beq j j')=true)
 (hd:(Zb Sc).all (fun j=>!((Zb Oc).any fun j'=>Nat.beq (Zm L nx j) (Zm L nx j')))=true)
 (hK:∀r O' vW,Q r O' vW->K (ur (Zm L nx) r) (qa (Zm L nx) O'++ZY ((Zb Oc).map (Zm L nx)) O) (nx+(vW-k))):CALL M f args O nx K:=by
 refine CALL.of L sp hL (fun i hi=>by have:=zT.1 eG i hi;simpa[yR]using this) ha hb (fun p hp=>?_) (fun j hj j' hj' he=>?_) (fun p hp=>?_) hK
 .obtain⟨h1,h2⟩:=Xk er p hp;exact⟨h1,hO.at p hp,h2⟩
 .have:=zT.1 (zT.1 hinj j hj) j' hj';simp only[he,Xh,xY,xE]at this;exact Zr this
 .obtain⟨h1,h2⟩:=Xk oz p hp;refine⟨h1,hS.at p hp,h2,fun hm=>?_⟩;obtain⟨j',hj',he⟩:=yc.1 hm;have:=zT.1 hd _ (Fw hp);simp only[Bool.not_eq_eq_eq_not,xY]at this;have h3:(Zb Oc).any (fun j'=>Nat.beq (Zm L nx p.1) (Zm L nx j'))=true:=xH.2 ⟨j',hj',by rw[he];exact Xh _⟩;rw[h3]at this;cases this
theorem jf.at{f:FuncId}{args uD:List SV}{KP K:SV->vX->Nat->Prop}{k:Nat}{Oc Sc:vX}{Q X:SV->vX->Nat->Prop}(L:List Nat)(sp:cF M.P M.C.T f k uD Oc Sc Q X)
 (hL:L.length=k) (eG:L.all (fun i=>Nat.blt i nx)=true) (ha:args=uJ (Zm L nx) uD) (hb:ZR k uD=true) (er:Zl k Oc=true) (oz:Zl k Sc=true) (hO:qF (Zm L nx) O Oc) (hS:ku M.C (Zm L nx) O Sc)
 (hinj:(Zb Oc).all (fun j=>(Zb Oc).all fun j'=>!(Nat.beq (Zm L nx j) (Zm L nx j'))||Nat.beq j j')=true)
 (hd:(Zb Sc).all (fun j=>!((Zb Oc).any fun j'=>Nat.beq (Zm L nx j) (Zm L nx j')))=true)
 (hK:∀r O' vW,Q r O' vW->K (ur (Zm L nx) r) (qa (Zm L nx) O'++ZY ((Zb Oc).map (Zm L nx)) O) (nx+(vW-k)))
 (hX:∀r O' vW,X r O' vW->KP (ur (Zm L nx) r) (qa (Zm L nx) O'++ZY ((Zb Oc).map (Zm L nx)) O) (nx+(vW-k))):jf M f args O nx KP K:=by
 refine jf.of L sp hL (fun i hi=>by have:=zT.1 eG i hi;simpa[yR]using this) ha hb (fun p hp=>?_) (fun j hj j' hj' he=>?_) (fun p hp=>?_) hK hX
 .obtain⟨h1,h2⟩:=Xk er p hp;exact⟨h1,hO.at p hp,h2⟩
 .have:=zT.1 (zT.1 hinj j hj) j' hj';simp only[he,Xh,xY,xE]at this;exact Zr this
 .obtain⟨h1,h2⟩:=Xk oz p hp;refine⟨h1,hS.at p hp,h2,fun hm=>?_⟩;obtain⟨j',hj',he⟩:=yc.1 hm;have:=zT.1 hd _ (Fw hp);simp only[Bool.not_eq_eq_eq_not,xY]at this;have h3:(Zb Oc).any (fun j'=>Nat.beq (Zm L nx p.1) (Zm L nx j'))=true:=xH.2 ⟨j',hj',by rw[he];exact Xh _⟩;rw[h3]at this;cases this
theorem u0.at{k:Nat}{r:SV}{Q:SV->vX->Nat->Prop}(hk:M.η0.length=k)(Z:List Nat)(rc:SV)(Oc:vX)(hτ:Z.all (fun i=>Nat.blt i nx)=true)(hr:r=ur (YM k Z) rc)(hb:ZV (k+Z.length) rc=true)(er:Zl (k+Z.length) Oc=true)
 (hO:qF (YM k Z) O Oc) (hinj:(Zb Oc).all (fun j=>(Zb Oc).all fun j'=>!(Nat.beq (YM k Z j) (YM k Z j'))||Nat.beq j j')=true) (hQ:Q rc Oc (k+Z.length)):u0 M O nx r Q:=by
 refine u0.keep hk Z (rc:=rc) (Oc:=Oc) (fun i hi=>by have:=zT.1 hτ i hi;simpa[yR]using this) hr hb (fun p hp=>?_) (fun j hj j' hj' he=>?_) hQ
 .obtain⟨h1,h2⟩:=Xk er p hp;exact⟨h1,hO.at p hp,h2⟩
 .have:=zT.1 (zT.1 hinj j hj) j' hj';simp only[he,Xh,xY,xE]at this;exact Zr this
theorem ZfU{G:Prop}{body:Code}{Q:Post}{n:Nat}{X:Type}(P:X->Prop)(NB:X->Fr)(Ox:X->vX)(h1:(∀x,P x->vZ M body (NB x) (Ox x) n Q)->G)(h2:∀x,P x->vZ M body (NB x) (Ox x) n Q):G:=h1 h2
theorem CALL.weak{f:FuncId}{args:List SV}{K:SV->vX->Nat->Prop}{O1:vX}{n1:Nat}(h:∀Y w,vR M Y w O nx->∃η',Y<+:η'/\vR M η' w O1 n1)(hc:CALL M f args O1 n1 K):CALL M f args O nx K:=by
 refine⟨fun Y w vs H hd=>?_⟩;obtain⟨η1,hp,H1⟩:=h Y w H;refine(hc.out η1 w vs H1 (vV.mono hp hd)).mono ?_;rintro v w' ⟨r,O',vW,η',h1,h2⟩;exact⟨r,O',vW,η',hp.trans h1,h2⟩
def pY(nx es:Nat):Nat->List SV->Option (List SV)
 |0, .val (.slice none 0 0)::r=>some (.sl (.loc nx) 0 es 0 none::r)
 |j+1,c::r=>match pY nx es j r with|some r=>some (c::r)|none=>none
 |_,_=>none
theorem NC{nx es:Nat}:∀{j:Nat} {row row':List SV},pY nx es j row=some row'->∀(i:Nat) (sv:SV),row'[i]?=some sv->row[i]?=some sv\/(row[i]?=some (SV.val (.slice none 0 0))/\sv=SV.sl (.loc nx) 0 es 0 none)
 |0,[],_,h=>by simp[pY]at h
 |0,c::r,row',h=>by
  unfold pY at h;split at h
  .rename_i e1 e2;injection e2 with e2 e3;subst e2 e3;injection h with h;subst h;intro i sv hi;cases i with
   |zero=>simp at hi;subst hi;exact .inr ⟨rfl,rfl⟩
   |succ i=>exact .inl (by simpa using hi)
  simp_all
  cases h
 |j+1,[],_,h=>by simp[pY]at h
 |j+1,c::r,row',h=>by
  unfold pY at h;split at h
  .rename_i r1 hr;injection h with h;subst h;intro i sv hi;cases i with
   |zero=>left;simpa using hi
   |succ i=>
    have:=NC hr i sv (by simpa using hi);simpa using this
  cases h
theorem vR.w8{Y:Env}{w:World}(H:vR M Y w O nx){i j es:Nat}{row row':List SV}(hi:u5 i O=some (.box row))(hr:pY nx es j row=some row'):
 ∃η',Y<+:η'/\vR M η' w ((nx, .rows es [])::uI i (.box row') O) (nx+1):=by
 have hpre:Y<+:Y++ [none]:=zz _ _;have hnew:(Y++ [none])[nx]?=some none:=by rw[zw (by rw[H.len];omega),H.len];simp
 have hold:∀{i h},u5 i O=some h->(Y++ [none])[i]?=Y[i]?:=fun{i h} hi=>by
  rw[zn (by rw[H.len];exact H.lt hi)]
 have hin:∀{a h},u5 a (uI i (.box row') O)=some h->∃h0,u5 a O=some h0/\vT (Y++ [none]) w true (.loc a) h/\∀n,vY (Y++ [none]) w (.loc a) h n->vY Y w (.loc a) h0 n:=by
  intro a h ha;rw[Y1 _ _ _ _ (by rw[hi];rfl)]at ha;split at ha
  .rename_i e;subst e;injection ha with ha;subst ha;refine⟨_,hi,?_,fun n f=>H.stands hpre hi (fun _ _=>rfl) (show vY (Y++ [none]) w (.loc _) (.box row) n from f)⟩;have:=(H.own.1 _ _ hi).1.mono hpre;simp only[vT]at this⊢;obtain⟨e,arr,T,fz,h1,h2,h3,h4⟩:=this;refine⟨e,arr,T,fz,h1,h2,h3,fun c sv hc=>?_⟩;rcases NC hr c sv hc with eY|⟨eY,rfl⟩
   exact h4 c sv eY
   .obtain⟨v,h5,h6,h7⟩:=h4 c _ eY;refine⟨v,h5,h6,?_⟩;simp only[Den]at h7⊢;exact .inl ⟨hnew,h7.1,trivial⟩
  exact⟨h,ha,(H.own.1 _ _ ha).1.mono hpre,fun n f=>H.stands hpre ha (fun _ _=>rfl) f⟩
 refine⟨Y++ [none],hpre,H.pre.trans hpre,by simp[H.len],⟨fun a h ha=>?_,fun a b h h' n ha hb hab f f'=>?_⟩,H.fr,H.wm⟩
 .rw[Z8]at ha;split at ha
  .rename_i e;subst e;injection ha with ha;subst ha
   exact⟨.inl ⟨hnew,rfl⟩,fun n f=>(vY.none (b:= .loc _) hnew f).elim⟩
  .obtain⟨h0,h1,h2,h3⟩:=hin ha;exact⟨h2,fun n f=>(H.own.1 a h0 h1).2 n (h3 n f)⟩
 .rw[Z8]at ha hb;split at ha
  rename_i e1;subst e1;exact(vY.none (b:= .loc _) hnew f).elim
  .split at hb
   rename_i e2;subst e2;exact(vY.none (b:= .loc _) hnew f').elim
   .obtain⟨h0,h1,_,h3⟩:=hin ha;obtain⟨h0',kS,_,Ff⟩:=hin hb;exact H.own.2 a b h0 h0' n h1 kS hab (h3 n f) (Ff n f')
theorem CALL.w8{f:FuncId}{args:List SV}{K:SV->vX->Nat->Prop}(i j es:Nat){row row':List SV}(hi:u5 i O=some (.box row))(hr:pY nx es j row=some row')(hc:CALL M f args ((nx, .rows es [])::uI i (.box row') O) (nx+1) K):CALL M f args O nx K:=
 CALL.weak (fun Y w H=>H.w8 hi hr) hc
theorem u0.here{k:Nat}{r rc:SV}{Oc:vX}{Q:SV->vX->Nat->Prop}(hk:M.η0.length=k)(hr:r=rc)(hb:ZV k rc=true)(er:Zl k Oc=true)(hO:gK O Oc)(hQ:Q rc Oc k):u0 M O nx r Q:=by
 have hσ:∀j,j<k->YM k [] j=j:=fun j hj=>by simp[YM,hj]
 refine u0.keep hk [] (rc:=rc) (Oc:=Oc) (fun i hi=>by cases hi) (by rw[U1 hσ hb];exact hr) hb ?_ ?_ hQ
 .intro p hp;obtain⟨h1,h2⟩:=Xk er p hp;exact⟨h1,by rw[hσ _ h1,Wn hσ h2];exact hO.at p hp,h2⟩
 .intro j hj j' hj' he;rwa [hσ j (Xl er j hj),hσ j' (Xl er j' hj')]at he
def cK(k:Nat):List SV->List SV->Prop
 |_,[]=>True
 | [],_::_=>False
 |c::cs,c'::cs'=>(c'= .any\/(c'=c/\ZV k c=true))/\cK k cs cs'
theorem cK.get{k:Nat}:∀{row row':List SV},cK k row row'->∀(j:Nat) (sv:SV),row'[j]?=some sv->∃c,row[j]?=some c/\(sv= .any\/(sv=c/\ZV k c=true))
 |_,[],_,j,sv,h=>by simp at h
 | [],_::_,h,_,_,_=>h.elim
 |c::cs,c'::cs',h,0,sv,hj=>by simp at hj;subst hj;exact⟨c,rfl,h.1⟩
 |c::cs,c'::cs',h,j+1,sv,hj=>by simp at hj;obtain⟨d,h1,h2⟩:=cK.get h.2 j sv hj;exact⟨d,by simpa using h1,h2⟩
theorem u0.loose{k:Nat}{r:SV}{Q:SV->vX->Nat->Prop}(hk:M.η0.length=k)(i:Nat)(row':List SV){row:List SV}(hr:plain r=true)(hO:u5 i O=some (.box row))(hi:Nat.blt i k=true)(hl:cK k row row')(hQ:Q r [(i, .box row')] k):u0 M O nx r Q:=by
 refine⟨fun Y w v H hd=>⟨r,[(i, .box row')],k,M.η0,hQ,zu,?_,?_⟩⟩
 .have hi:i<k:=by simpa[yR]using hi
  have qm:∀j,j<k->Y[j]?=M.η0[j]?:=fun j hj=>by
   obtain⟨t,ht⟩:=H.pre;rw[<-ht,zn (by omega)]
  have hb:fo Y M.η0 id k:=fun j x hj hx=>by rw[<-qm j hj];exact hx
  have u9:vT M.η0 w true (.loc i) (.box row'):=by
   have:=(H.own.1 i _ hO).1;simp only[vT]at this⊢;obtain⟨e,arr,T,fz,h1,h2,h3,h4⟩:=this;refine⟨e,arr,T,fz,by simp only[Env.get]at h1⊢;rw[<-qm i hi];exact h1,h2,h3,fun j sv hj=>?_⟩;obtain⟨c,h5,h6⟩:=hl.get j sv hj;obtain⟨u,h7,h8,h9⟩:=h4 j c h5;refine⟨u,h7,h8,?_⟩;rcases h6 with rfl|⟨rfl,h6⟩
   simp only[Den];exact Den.ug hb h6 (by rw[sV (σ:=id) (fun _=>rfl)];exact h9)
  refine⟨zu,hk,⟨fun j h hj=>?_,fun a b h h' n ha hb' hab=>?_⟩,H.fr,H.wm⟩
  .rw[Z8]at hj;split at hj
   .rename_i e;subst e;injection hj with hj;subst hj
    exact⟨u9,fun n f=>(H.own.1 _ _ hO).2 n ((show vY M.η0 w (.loc _) (.box row) n from f).mono H.pre)⟩
   simp[u5]at hj
  .rw[Z8]at ha hb';split at ha
   .split at hb'
    rename_i e1 e2;exact(hab (e1.trans e2.symm)).elim;simp[u5]at hb'
   simp[u5]at ha
 .have hb:fo Y M.η0 (fun i=>i) 0:=fun i x hi=>by omega
  exact Den.ug hb (XA 0 hr) (by rw[X8 _ hr];exact hd)
def cL:Nat->List SV
 |0=>[]
 |n+1=> .any::cL n
theorem ND{Y η':Env}:∀{cs:List SV} {vs:List Value},vV Y cs vs->vV η' (cL cs.length) vs
 | [],vs,h=>by simpa[vV,cL]using h
 |c::cs,vs,h=>by
  simp only[vV,cL,List.length_cons]at h⊢;obtain⟨u,us,rfl,_,h⟩:=h;exact⟨u,us,rfl,by simp only[Den],ND h⟩
theorem u0.kG(n:Nat){k:Nat}{r:SV}{cs vs:List SV}{Q:SV->vX->Nat->Prop}(hk:M.η0.length=k)(hr:r= .uz (.agg cs::vs))(hn:WC cs n=true)(hv:YJ vs=true)(hQ:Q (.uz (.agg (cL n)::vs)) [] k):u0 M O nx r Q:=by
 have hn:cs.length=n:=by
  clear hr hQ
  induction n generalizing cs with
  |zero=>cases cs with
   |nil=>rfl
   |cons a l=>simp[WC]at hn
  |succ n ih=>cases cs with
   |nil=>simp[WC]at hn
   |cons a l=>simp only[WC]at hn;simp[ih hn]
 refine⟨fun Y w v H hd=>⟨.uz (.agg (cL n)::vs),[],k,M.η0,hQ,zu,⟨zu,hk,⟨fun i h hi=>by simp[u5]at hi,fun i j h h' n hi=>by simp[u5]at hi⟩,H.fr,H.wm⟩,?_⟩⟩;rw[hr]at hd;simp only[Den,vV]at hd⊢;obtain⟨us,h1,u,us',h2,⟨xs,h5,h6,h7⟩,h4⟩:=hd;refine⟨us,h1,u,us',h2,⟨xs,h5,by rw[<-hn];exact ND h6,h7⟩,?_⟩;have hb:fo Y M.η0 (fun i=>i) 0:=fun i x hi=>by omega
 exact vV.ug hb (ZE 0 hv) (by rw[ZL _ hv];exact h4)
section
variable {m:Nat}{σ:Nat->Nat}{sv:SV}
theorem NF(hs:ZV m sv=true):∀{row:List DC} {c:Nat},Yr row=true->Xz m (row.set c (.v sv))=true
 | [],_,_=>rfl
 |d::row,0,h=>by simp only[Yr,zj]at h;simp only[List.set_cons_zero,Xz,mF,hs,JQ m h.2,zB]
 |d::row,c+1,h=>by simp only[Yr,zj]at h;simp only[List.set_cons_succ,Xz,Pt m h.1,NF hs h.2,zB]
theorem NG(hs:ZV m sv=true):∀{rs:List (List DC)} {r c:Nat},ZB rs=true->Yy m (uB rs r c (.v sv))=true
 | [],r,_,_=>by cases r<;>rfl
 |row::rs,0,c,h=>by simp only[ZB,zj]at h;simp only[uB,List.modify_zero_cons,Yy,NF hs h.1,Jl m h.2,zB]
 |row::rs,r+1,c,h=>by simp only[ZB,zj]at h;simp only[uB,List.modify_succ_cons,Yy,JQ m h.1,xd];exact NG hs h.2
theorem NH:∀{row:List DC} {c:Nat},Yr row=true->ax σ (row.set c (.v sv))=row.set c (.v (ur σ sv))
 | [],_,_=>rfl
 |d::row,0,h=>by simp only[Yr,zj]at h;simp only[List.set_cons_zero,ax,gh,Ue σ h.2]
 |d::row,c+1,h=>by simp only[Yr,zj]at h;simp only[List.set_cons_succ,ax,Pq σ h.1,NH h.2]
theorem NI:∀{rs:List (List DC)} {r c:Nat},ZB rs=true->XG σ (uB rs r c (.v sv))=uB rs r c (.v (ur σ sv))
 | [],r,_,_=>by cases r<;>rfl
 |row::rs,0,c,h=>by simp only[ZB,zj]at h;simp only[uB,List.modify_zero_cons,XG,NH h.1,Vy σ h.2]
 |row::rs,r+1,c,h=>by simp only[ZB,zj]at h;simp only[uB,List.modify_succ_cons,XG,Ue σ h.1];exact z8 (row:: ·) (NI h.2)
theorem ZbO{mp:Bool}{es r c:Nat}{rs:List (List DC)}(h:ZB rs=true)(hs:ZV m sv=true):Zh m (.deep mp es (uB rs r c (.v sv)))=true:=NG hs h
theorem ZfV{mp:Bool}{es r c:Nat}{rs:List (List DC)}(h:ZB rs=true):Hp.deep mp es (uB rs r c (.v (ur σ sv)))=um σ (.deep mp es (uB rs r c (.v sv))):=by simp only[um,NI h]
end
class dZ{V:Type}(f:V->List SV):Prop where
 h:∀x,YJ (f x)=true
class Pl(rs:List (List SV)):Prop where
 h:Zj rs=true
class bu(rs:List (List DC)):Prop where
 h:ZB rs=true
instance {V:Type}{f:V->List SV}[p:dZ f]{l:List V}:Pl (l.map f):=⟨ZD f p.h l⟩
instance :dZ bytesRow:=⟨fun _=>rfl⟩
theorem Yf{m i:Nat}{h:Hp}{O:vX}(h1:Nat.blt i m=true)(h2:Zh m h=true)(h3:Zl m O=true):Zl m ((i,h)::O)=true:=by simp only[Zl,h1,h2,h3,zB]
theorem Kj{k:IntKind}{a b:Int}(h:a=b):Hp.box [.int k a]=Hp.box [.int k b]:=by rw[h]
theorem Kk{b:wq}{r es n n':Nat}{lim:Option Nat}(h:n=n'):Hp.box [.sl b r es n lim]=Hp.box [.sl b r es n' lim]:=by rw[h]
section
variable {m es:Nat}{σ Z:Nat->Nat}{rs:List (List SV)}{ds:List (List DC)}{mp:Bool}
theorem WM[p:Pl rs]:Zh m (.rows es rs)=true:=Yz m (h:= .rows es rs) p.h
theorem WN[p:Pl rs]:Zh m (.mp rs)=true:=Yz m (h:= .mp rs) p.h
theorem Um[p:bu ds]:Zh m (.deep mp es ds)=true:=Yz m (h:= .deep mp es ds) p.h
theorem Un{r c:Nat}{sv:SV}[p:bu ds](h:ZV m sv=true):Zh m (.deep mp es (uB ds r c (.v sv)))=true:=ZbO p.h h
theorem tc{r c:Nat}{sv mC:SV}[p:bu ds](h:mC=ur σ sv):Hp.deep mp es (uB ds r c (.v mC))=um σ (.deep mp es (uB ds r c (.v sv))):=h▸ZfV p.h
theorem fB[p:Pl rs]:um σ (.rows es rs)= .rows es rs:=Zv σ (h:= .rows es rs) p.h
theorem fC[p:Pl rs]:um σ (.mp rs)= .mp rs:=Zv σ (h:= .mp rs) p.h
theorem kU[p:bu ds]:um σ (.deep mp es ds)= .deep mp es ds:=Zv σ (h:= .deep mp es ds) p.h
theorem r9[p:Pl rs]:um σ (.rows es rs)=um Z (.rows es rs):=fB.trans fB.symm
theorem ri[p:Pl rs]:um σ (.mp rs)=um Z (.mp rs):=fC.trans fC.symm
theorem td[p:bu ds]:um σ (.deep mp es ds)=um Z (.deep mp es ds):=kU.trans kU.symm
end
section
variable {M:Mx}{fr fr':Fr}{O O':vX}{nx:Nat}
theorem CALL.aA{f:FuncId}{args uD:List SV}{K:SV->vX->Nat->Prop}{k:Nat}{Oc Sc:vX}{Q:SV->vX->Nat->Prop}(L:List Nat)(sp:vS M.P M.C.T f k uD Oc Sc Q)
 (hK:∀r O' vW,Q r O' vW->K (ur (Zm L nx) r) (qa (Zm L nx) O'++ZY ((Zb Oc).map (Zm L nx)) O) (nx+(vW-k)))
 (hL:L.length=k:=by exact rfl) (eG:L.all (fun i=>Nat.blt i nx)=true:=by exact rfl) (ha:args=uJ (Zm L nx) uD:=by exact rfl) (hb:ZR k uD=true:=by exact rfl)
 (er:Zl k Oc=true:=by(repeat'(first|(refine Yf rfl ?_ ?_)|exact WM|exact WN|exact Um|exact Un rfl|rfl))) (oz:Zl k Sc=true:=by(repeat'(first|(refine Yf rfl ?_ ?_)|exact WM|exact WN|exact Um|exact Un rfl|rfl))) (hO:qF (Zm L nx) O Oc:=by(repeat'(first|exact trivial|(with_reducible rfl)|exact fB.symm|exact r9|exact fC.symm|exact ri|exact kU.symm|exact td|exact tc rfl|(exact Zk Pl.h (by simp[YG,zg]<;>rfl))|exact rfl|((conv=>whnf);refine⟨?_,?_⟩)))) (hS:ku M.C (Zm L nx) O Sc:=by(repeat'(first|exact trivial|(with_reducible rfl)|exact fB.symm|exact r9|exact fC.symm|exact ri|exact kU.symm|exact td|exact tc rfl|(exact Zk Pl.h (by simp[YG,zg]<;>rfl))|exact rfl|((conv=>whnf);refine⟨?_,?_⟩))))
 (hinj:(Zb Oc).all (fun j=>(Zb Oc).all fun j'=>!(Nat.beq (Zm L nx j) (Zm L nx j'))||Nat.beq j j')=true:=by exact rfl)
 (hd:(Zb Sc).all (fun j=>!((Zb Oc).any fun j'=>Nat.beq (Zm L nx j) (Zm L nx j')))=true:=by exact rfl):CALL M f args O nx K:=
 CALL.at L sp hL eG ha hb er oz hO hS hinj hd hK
theorem jf.aA{f:FuncId}{args uD:List SV}{KP K:SV->vX->Nat->Prop}{k:Nat}{Oc Sc:vX}{Q X:SV->vX->Nat->Prop}(L:List Nat)(sp:cF M.P M.C.T f k uD Oc Sc Q X)
 (hK:∀r O' vW,Q r O' vW->K (ur (Zm L nx) r) (qa (Zm L nx) O'++ZY ((Zb Oc).map (Zm L nx)) O) (nx+(vW-k)))
 (hX:∀r O' vW,X r O' vW->KP (ur (Zm L nx) r) (qa (Zm L nx) O'++ZY ((Zb Oc).map (Zm L nx)) O) (nx+(vW-k)))
 (hL:L.length=k:=by exact rfl) (eG:L.all (fun i=>Nat.blt i nx)=true:=by exact rfl) (ha:args=uJ (Zm L nx) uD:=by exact rfl) (hb:ZR k uD=true:=by exact rfl)
 (er:Zl k Oc=true:=by(repeat'(first|(refine Yf rfl ?_ ?_)|exact WM|exact WN|exact Um|exact Un rfl|rfl))) (oz:Zl k Sc=true:=by(repeat'(first|(refine Yf rfl ?_ ?_)|exact WM|exact WN|exact Um|exact Un rfl|rfl))) (hO:qF (Zm L nx) O Oc:=by(repeat'(first|exact trivial|(with_reducible rfl)|exact fB.symm|exact r9|exact fC.symm|exact ri|exact kU.symm|exact td|exact tc rfl|(exact Zk Pl.h (by simp[YG,zg]<;>rfl))|exact rfl|((conv=>whnf);refine⟨?_,?_⟩)))) (hS:ku M.C (Zm L nx) O Sc:=by(repeat'(first|exact trivial|(with_reducible rfl)|exact fB.symm|exact r9|exact fC.symm|exact ri|exact kU.symm|exact td|exact tc rfl|(exact Zk Pl.h (by simp[YG,zg]<;>rfl))|exact rfl|((conv=>whnf);refine⟨?_,?_⟩))))
 (hinj:(Zb Oc).all (fun j=>(Zb Oc).all fun j'=>!(Nat.beq (Zm L nx j) (Zm L nx j'))||Nat.beq j j')=true:=by exact rfl)
 (hd:(Zb Sc).all (fun j=>!((Zb Oc).any fun j'=>Nat.beq (Zm L nx j) (Zm L nx j')))=true:=by exact rfl):jf M f args O nx KP K:=
 jf.at L sp hL eG ha hb er oz hO hS hinj hd hK hX
theorem u0.aA{k:Nat}{r:SV}{Q:SV->vX->Nat->Prop}(hk:M.η0.length=k)(Z:List Nat)(rc:SV)(Oc:vX)(hQ:Q rc Oc (k+Z.length))(hτ:Z.all (fun i=>Nat.blt i nx)=true:=by exact rfl)(hr:r=ur (YM k Z) rc:=by exact rfl)(hb:ZV (k+Z.length) rc=true:=by exact rfl)(er:Zl (k+Z.length) Oc=true:=by(repeat'(first|(refine Yf rfl ?_ ?_)|exact WM|exact WN|exact Um|exact Un rfl|rfl)))
 (hO:qF (YM k Z) O Oc:=by(repeat'(first|exact trivial|(with_reducible rfl)|exact fB.symm|exact r9|exact fC.symm|exact ri|exact kU.symm|exact td|exact tc rfl|(exact Zk Pl.h (by simp[YG,zg]<;>rfl))|exact rfl|((conv=>whnf);refine⟨?_,?_⟩)))) (hinj:(Zb Oc).all (fun j=>(Zb Oc).all fun j'=>!(Nat.beq (YM k Z j) (YM k Z j'))||Nat.beq j j')=true:=by exact rfl):u0 M O nx r Q:=
 u0.at hk Z rc Oc hτ hr hb er hO hinj hQ
theorem CALL.hA{f:FuncId}{args:List SV}{K:SV->vX->Nat->Prop}{k:Nat}{Oc Sc:vX}{Q:SV->vX->Nat->Prop}(sp:vS M.P M.C.T f k args Oc Sc Q)
 (hQ:∀r O' vW,Q r O' vW->vW=k/\ZV k r=true/\Zl k O'=true) (hK:∀r O',Q r O' k->K r (O'++ZY (Zb Oc) O) nx)
 (hk:Nat.ble k nx=true:=by exact rfl) (hb:ZR k args=true:=by exact rfl) (er:Zl k Oc=true:=by(repeat'(first|(refine Yf rfl ?_ ?_)|exact WM|exact WN|exact Um|exact Un rfl|rfl))) (oz:Zl k Sc=true:=by(repeat'(first|(refine Yf rfl ?_ ?_)|exact WM|exact WN|exact Um|exact Un rfl|rfl))) (hO:gK O Oc:=by(repeat'(first|exact trivial|exact rfl|((conv=>whnf);refine⟨?_,?_⟩)))) (hS:fV M.C O Sc:=by(repeat'(first|exact trivial|exact rfl|((conv=>whnf);refine⟨?_,?_⟩))))
 (hd:(Zb Sc).all (fun j=>!((Zb Oc).any (Nat.beq j)))=true:=by exact rfl):CALL M f args O nx K:=CALL.here sp hk hb er oz hO hS hd hQ hK
theorem vU.cA{k m:Nat}(hk:M.η0.length=k)(hkm:Nat.ble k m=true:=by exact rfl)(hmn:Nat.ble m nx=true:=by exact rfl)(sW:Uj m fr'=true:=by exact rfl)(sX:Zl m O'=true:=by(repeat'(first|(refine Yf rfl ?_ ?_)|exact WM|exact WN|exact Um|exact Un rfl|rfl)))
 (hf:pR fr fr':=by(repeat'(first|(with_reducible rfl)|exact trivial|(exact YA rfl (by first|omega|(simp(disch:=omega) only[wI,Z9,Zp]<;>omega)|(simp;done)|(simp<;>omega)))|(exact z8 (SV.int _) (by first|omega|(simp(disch:=omega) only[wI,Z9,Zp]<;>omega)|(simp;done)|(simp<;>omega)))|(exact Kj (by first|omega|(simp(disch:=omega) only[wI,Z9,Zp]<;>omega)|(simp;done)|(simp<;>omega)))|(exact Kk (by first|omega|(simp(disch:=omega) only[wI,Z9,Zp]<;>omega)|(simp;done)|(simp<;>omega)))|exact fB|exact fC|exact kU|(with_reducible assumption)|(exact z8 (Hp.rows _) (by simp[zg]<;>rfl))|((conv=>whnf);refine⟨?_,?_⟩)|(simp;done)|rfl))) (hO:K8 O O':=by(repeat'(first|(with_reducible rfl)|exact trivial|(exact YA rfl (by first|omega|(simp(disch:=omega) only[wI,Z9,Zp]<;>omega)|(simp;done)|(simp<;>omega)))|(exact z8 (SV.int _) (by first|omega|(simp(disch:=omega) only[wI,Z9,Zp]<;>omega)|(simp;done)|(simp<;>omega)))|(exact Kj (by first|omega|(simp(disch:=omega) only[wI,Z9,Zp]<;>omega)|(simp;done)|(simp<;>omega)))|(exact Kk (by first|omega|(simp(disch:=omega) only[wI,Z9,Zp]<;>omega)|(simp;done)|(simp<;>omega)))|exact fB|exact fC|exact kU|(with_reducible assumption)|(exact z8 (Hp.rows _) (by simp[zg]<;>rfl))|((conv=>whnf);refine⟨?_,?_⟩)|(simp;done)|rfl))) (hd:lY fr fr'=true:=by exact rfl) (hro:lZ M.C.ro id m=true:=by exact rfl):vU M fr O nx fr' O' m:=vU.wE hk hkm hmn sW sX hf hO hd hro
theorem vU.kA{k:Nat}(hk:M.η0.length=k)(Z:List Nat)(hτ:Z.all (fun i=>Nat.blt i nx)=true:=by exact rfl)
 (hn:(Zb O').all (fun j=>(Zb O').all fun j'=>!(Nat.beq (YM k Z j) (YM k Z j'))||Nat.beq j j')=true:=by exact rfl)
 (sW:Uj (k+Z.length) fr'=true:=by exact rfl) (sX:Zl (k+Z.length) O'=true:=by(repeat'(first|(refine Yf rfl ?_ ?_)|exact WM|exact WN|exact Um|exact Un rfl|rfl))) (hf:pW (YM k Z) fr fr':=by(repeat'(first|(with_reducible rfl)|exact trivial|exact fB.symm|exact r9|exact fC.symm|exact ri|exact kU.symm|exact td|exact tc rfl|(exact YA rfl (by first|omega|(simp(disch:=omega) only[wI,Z9,Zp]<;>omega)|(simp;done)|(simp<;>omega)))|(exact z8 (SV.int _) (by first|omega|(simp(disch:=omega) only[wI,Z9,Zp]<;>omega)|(simp;done)|(simp<;>omega)))|(exact Kj (by first|omega|(simp(disch:=omega) only[wI,Z9,Zp]<;>omega)|(simp;done)|(simp<;>omega)))|(exact Kk (by first|omega|(simp(disch:=omega) only[wI,Z9,Zp]<;>omega)|(simp;done)|(simp<;>omega)))|(with_reducible assumption)|(exact Zk Pl.h (by simp[YG,zg]<;>rfl))|((conv=>whnf);refine⟨?_,?_⟩)|(simp only[ur,uS];done)|rfl))) (hO:Kh (YM k Z) O O':=by(repeat'(first|(with_reducible rfl)|exact trivial|exact fB.symm|exact r9|exact fC.symm|exact ri|exact kU.symm|exact td|exact tc rfl|(exact YA rfl (by first|omega|(simp(disch:=omega) only[wI,Z9,Zp]<;>omega)|(simp;done)|(simp<;>omega)))|(exact z8 (SV.int _) (by first|omega|(simp(disch:=omega) only[wI,Z9,Zp]<;>omega)|(simp;done)|(simp<;>omega)))|(exact Kj (by first|omega|(simp(disch:=omega) only[wI,Z9,Zp]<;>omega)|(simp;done)|(simp<;>omega)))|(exact Kk (by first|omega|(simp(disch:=omega) only[wI,Z9,Zp]<;>omega)|(simp;done)|(simp<;>omega)))|(with_reducible assumption)|(exact Zk Pl.h (by simp[YG,zg]<;>rfl))|((conv=>whnf);refine⟨?_,?_⟩)|(simp only[ur,uS];done)|rfl))) (hd:lY fr fr'=true:=by exact rfl) (hro:lZ M.C.ro (YM k Z) (k+Z.length)=true:=by exact rfl):vU M fr O nx fr' O' (k+Z.length):=
 vU.uw hk Z hτ hn sW sX hf hO hd hro
end
theorem AU{P Q:Prop}(k:Q)(h:Q->P:=by first|(with_reducible exact IF.tt)|(with_reducible exact IF.ff)|(with_reducible exact GET.at rfl)|(with_reducible exact gZ.at rfl)|((with_reducible refine fun k=>u6.mk ?_ k);first|with_reducible rfl|omega|(simp(disch:=omega) only[wI,Z9,Zp]<;>omega)|(intro h;(try simp(disch:=omega) only[Ka,Kb,wI,Z9,Zp,simprocAttr]at h);(first|omega|(simp(disch:=omega) only[wI,Z9,Zp]<;>omega)))|(exact Zn 256 rfl rfl (by simp) (by simp) (by omega))|(exact⟨by omega,Kc (by omega)⟩)|(exact⟨by omega,by omega,Kc (by omega)⟩)|(simp<;>omega))):P:=h k
theorem IW{J:Type}{b:Bool}{A B:J->Prop}{j:J}{p q:Prop}(x:p->A j)(y:q->B j)
 (hp:b=true->p:=by(intro h;first|(simp(disch:=omega) only[Ka,Kb,wI,Z9,Zp,simprocAttr]at h;exact h)|(exact(show(0:Nat)=1 by simp(disch:=omega) only[Ka,Kb,wI,Z9,Zp,simprocAttr]at h))|exact h))
 (hq:b=false->q:=by(intro h;first|(simp(disch:=omega) only[Ka,Kb,wI,Z9,Zp,simprocAttr]at h;exact h)|(exact(show(0:Nat)=1 by simp(disch:=omega) only[Ka,Kb,wI,Z9,Zp,simprocAttr]at h))|exact h)):IF b A B j:=⟨fun h=>x (hp h),fun h=>y (hq h)⟩
theorem Zi5{b:wq}{r es len:Nat}{lim:Option Nat}(h:0<len):aX (.sl b r es len lim):=by
 intro Y u u' h1 h2;simp only[Den]at h1 h2;rcases h1 with⟨_,_,h0⟩|⟨e,o,g1,rfl,g3,g4,g5⟩
 omega;rcases h2 with⟨_,_,h0⟩|⟨e',o',k1,rfl,k3,k4,k5⟩
 omega;rw[g1]at k1;injection k1 with k1;injection k1 with k1;subst k1;rw[g5 (.inl (by omega)),k5 (.inl (by omega))]
theorem AD{P Q:Prop}(k:Q)(h:Q->P:=by first|exact fun k=>u6.mk (aX.of rfl) k|exact fun k=>u6.mk (Zi5 (by omega)) k):P:=h k
end Go.Sx
namespace Go.Our
open Go.Sx
structure qJ{K:Type}(c:K->K->Int):Prop where
 oC:∀a b,c a b= -1\/c a b=0\/c a b=1
 anti:∀a b,c b a= -c a b
 zero:∀a b,c a b=0<->a=b
 trans:∀a b d,c a b<=0->c b d<=0->c a d<=0
def uY(a b:Int):Int:=if a<b then-1 else if a>b then 1 else 0
theorem fW:qJ uY where
 oC a b:=by unfold uY;(repeat' split)<;>omega
 anti a b:=by unfold uY;(repeat' split)<;>omega
 zero a b:=by unfold uY;(repeat' split)<;>omega
 trans a b d:=by unfold uY;(repeat' split)<;>omega
open Lib (compareBytes)
theorem NJ:∀a b,compareBytes a b= -1\/compareBytes a b=0\/compareBytes a b=1
 | [],[]=>by simp[compareBytes]
 | [],_::_=>by simp[compareBytes]
 |_::_,[]=>by simp[compareBytes]
 |a::mL,b::bs=>by
  unfold compareBytes;split
  simp
  .split
   simp;exact NJ mL bs
theorem NK:∀a b,compareBytes b a= -compareBytes a b
 | [],[]=>by simp[compareBytes]
 | [],_::_=>by simp[compareBytes]
 |_::_,[]=>by simp[compareBytes]
 |a::mL,b::bs=>by
  unfold compareBytes;simp only[vk];by_cases h:a.toNat<b.toNat
  .have:¬b.toNat<a.toNat:=by omega
   simp[h,this]
  .by_cases h':b.toNat<a.toNat
   simp[h,h'];simp only[h,h',xG];exact NK mL bs
theorem NL:∀a b,compareBytes a b=0<->a=b
 | [],[]=>by simp[compareBytes]
 | [],_::_=>by simp[compareBytes]
 |_::_,[]=>by simp[compareBytes]
 |a::mL,b::bs=>by
  unfold compareBytes;simp only[vk,yA,<-UInt8.toNat_inj];by_cases h:a.toNat<b.toNat
  simp[h];omega
  .by_cases h':b.toNat<a.toNat
   simp[h,h'];omega
   .have:a.toNat=b.toNat:=by omega
    simp only[this,Nat.lt_irrefl,xG,xI];exact NL mL bs
theorem NM:∀a b c,compareBytes a b<=0->compareBytes b c<=0->compareBytes a c<=0
 | [],_,[]=>by simp[compareBytes]
 | [],_,_::_=>by simp[compareBytes]
 |_::_,[],_=>by simp[compareBytes]
 |_::_,_::_,[]=>by simp[compareBytes]
 |a::mL,b::bs,c::cs=>by
  unfold compareBytes;simp only[vk];have ih:=NM mL bs cs
  (repeat' split)<;>first|omega|(intro x y;first|exact ih x y|omega)
def cmpL(a b:List UInt8):Int:=compareBytes a b
theorem qA:qJ cmpL where
 oC a b:=NJ _ _
 anti a b:=NK _ _
 zero a b:=NL _ _
 trans a b d:=NM _ _ _
def XX{J Y:Type}(c:J->J->Int)(d:Y->Y->Int)(a b:J×Y):Int:=if c a.1 b.1≠0 then c a.1 b.1 else d a.2 b.2
theorem Wo{J Y:Type}{c:J->J->Int}{d:Y->Y->Int}(hc:qJ c)(hd:qJ d):qJ (XX c d) where
 oC a b:=by unfold XX;split<;>first|exact hc.oC _ _|exact hd.oC _ _
 anti a b:=by
  unfold XX;rw[hc.anti a.1 b.1,hd.anti a.2 b.2];by_cases h:c a.1 b.1=0
  simp[h]
  .have:¬ -c a.1 b.1=0:=by omega
   simp[h,this]
 zero a b:=by
  unfold XX;by_cases h:c a.1 b.1=0
  .simp only[h,ne_eq,not_true_eq_false,xG];rw[hd.zero];have hf:=(hc.zero _ _).1 h;exact⟨fun hg=>Prod.ext hf hg,fun e=>by rw[e]⟩
  .simp only[ne_eq,h,xg,yJ,false_iff];intro e;subst e;exact h ((hc.zero _ _).2 rfl)
 trans a b e:=by
  unfold XX;intro h1 h2;have r1:=hc.oC a.1 b.1;have r2:=hc.oC b.1 e.1;have t1:=hc.trans a.1 b.1 e.1;by_cases x:c a.1 b.1=0
  .have ex:=(hc.zero _ _).1 x;simp only[x,ne_eq,not_true_eq_false,xG]at h1;rw[ex];by_cases y:c b.1 e.1=0
   .simp only[y,ne_eq,not_true_eq_false,xG]at h2⊢;exact hd.trans _ _ _ h1 h2
   .simp only[ne_eq,y,xg,yJ]at h2⊢;exact h2
  .simp only[ne_eq,x,xg,yJ]at h1;by_cases y:c b.1 e.1=0
   .have ey:=(hc.zero _ _).1 y;rw[<-ey];simp only[ne_eq,x,xg,yJ];exact h1
   .simp only[ne_eq,y,xg,yJ]at h2;have hle:=t1 h1 h2
    have hne:c a.1 e.1≠0:=by
     intro hz;have e1:=(hc.zero _ _).1 hz;rw[<-e1]at h2 y;have:=hc.anti a.1 b.1;omega
    simp only[ne_eq,hne,xg,yJ];exact hle
theorem NN{K J:Type}{c:J->J->Int}(hc:qJ c)(f:K->J)(hf:∀a b,f a=f b->a=b):qJ (fun a b=>c (f a) (f b)) where
 oC a b:=hc.oC _ _
 anti a b:=hc.anti _ _
 zero a b:=by rw[hc.zero];exact⟨hf a b,fun e=>by rw[e]⟩
 trans a b d:=hc.trans _ _ _
theorem UV:∀a b:List UInt8,Op.bytesLess a b=decide (Lib.compareBytes a b<0)
 | [],[]=>by simp[Op.bytesLess,Lib.compareBytes]
 | [],_::_=>by simp[Op.bytesLess,Lib.compareBytes]
 |_::_,[]=>by simp[Op.bytesLess,Lib.compareBytes]
 |a::mL,b::bs=>by
  unfold Op.bytesLess Lib.compareBytes;rw[UV mL bs];simp only[vk]
  have DK:(a==b)=decide (a.toNat=b.toNat):=by
   rw[zX];simp[UInt8.toNat_inj]
  rw[DK];by_cases h:a.toNat<b.toNat
  simp[h]
  .by_cases h':b.toNat<a.toNat
   .have:¬a.toNat=b.toNat:=by omega
    simp[h,h',this]
   .have:a.toNat=b.toNat:=by omega
    simp[this]
theorem NP(a b:List UInt8):iz a b=decide (cmpL a b<0):=UV a b
def Tm.key(x:Tm):Int×List UInt8×List UInt8×List UInt8:=(x.k,x.t,x.y,x.l)
def YH(a b:Tm):Int:=XX uY (XX cmpL (XX cmpL cmpL)) a.key b.key
theorem bK:qJ YH:=NN (Wo fW (Wo qA (Wo qA qA))) Tm.key (fun a b h=>by
 cases a;cases b;simp[Tm.key]at h;simp[h])
def Qd.key(q:Qd):Tm×Tm×Tm×Tm:=(q.g,q.s,q.p,q.o)
def ZP(a b:Qd):Int:=XX YH (XX YH (XX YH YH)) a.key b.key
theorem kH:qJ ZP:=NN (Wo bK (Wo bK (Wo bK bK))) Qd.key (fun a b h=>by
 cases a;cases b;simp[Qd.key]at h;simp[h])
def aF:List Int->Int
 | []=>0
 |x::l=>if x≠0 then x else aF l
theorem NQ(a b:Tm):aF [uY a.k b.k,cmpL a.t b.t,cmpL a.y b.y,cmpL a.l b.l]=YH a b:=by
 simp only[aF,YH,XX,Tm.key]
 (repeat' split)<;>simp_all
theorem NR(a b:Qd):aF [YH a.g b.g,YH a.s b.s,YH a.p b.p,YH a.o b.o]=ZP a b:=by
 simp only[aF,ZP,XX,Qd.key]
 (repeat' split)<;>simp_all
abbrev Qd.row(q:Qd):List SV:=[.int .i64 q.s.k, .str q.s.t, .str q.s.y, .str q.s.l, .int .i64 q.p.k, .str q.p.t, .str q.p.y, .str q.p.l, .int .i64 q.o.k, .str q.o.t, .str q.o.y, .str q.o.l, .int .i64 q.g.k, .str q.g.t, .str q.g.y, .str q.g.l]
def Z3(q:Qd):List SV:=q.row
def ZF(x:Tm):List SV:=[.int .i64 x.k, .str x.t, .str x.y, .str x.l]
theorem Za(l:List Tm):Zj (l.map ZF)=true:=ZD _ (fun _=>rfl) l
instance :dZ ZF:=⟨fun _=>rfl⟩
theorem Tm.ext'{a b:Tm}(h:ZF a=ZF b):a=b:=by
 obtain⟨_,_,_,_⟩:=a;obtain⟨_,_,_,_⟩:=b;simp only[ZF,yA,SV.int.injEq,SV.str.injEq,xI,xm]at h
 simp_all
def Kl:Qd:=⟨ZC,ZC,ZC,ZC⟩
theorem Zo(l:List Qd):Zj (l.map Z3)=true:=ZD _ (fun _=>rfl) l
instance :dZ Z3:=⟨fun _=>rfl⟩
theorem NS{l:List Qd}{i:Nat}(h:i<l.length):(l.map Z3)[i]?=some (Z3 l[i]):=by rw[z6,z1 h];rfl
theorem NT{K:Type}(f:K->List SV)(l z:List K):(((l++z).map f).drop 0).take l.length=l.map f:=by
 rw[yN,yz,xl (by simp),zg (by simp)]
theorem NU{K:Type}(f:K->List SV)(l:List K)(i:Nat)(x:K):(l.map f).set i (f x)=(l.set i x).map f:=by rw[vj]
theorem Vc{K:Type}{f:K->List SV}{l:List K}{i j:Nat}(h:i<l.length)(hj:j=i):(l.map f)[j]?=some (f l[i]):=by
 subst hj;rw[z6,z1 h];rfl
theorem Qd.ext'{a b:Qd}(h:Z3 a=Z3 b):a=b:=by
 obtain⟨⟨_,_,_,_⟩,⟨_,_,_,_⟩,⟨_,_,_,_⟩,⟨_,_,_,_⟩⟩:=a;obtain⟨⟨_,_,_,_⟩,⟨_,_,_,_⟩,⟨_,_,_,_⟩,⟨_,_,_,_⟩⟩:=b;simp only[Z3,Qd.row,yA,SV.int.injEq,SV.str.injEq,xI,xm]at h
 simp_all
end Go.Our
set_option linter.unusedSectionVars false
namespace Go.Our
section
variable {K:Type}{c:K->K->Int}
theorem qJ.lt_trans(h:qJ c){x y z:K}(h1:c x y<0)(h2:c y z<=0):c x z<0:=by
 have h3:=h.trans x y z (by omega) h2;rcases vH h3 with h4|h4
 exact h4
 .have e:=(h.zero x z).1 h4;subst e;have:=h.anti x y;omega
theorem qJ.rj(h:qJ c){x y z:K}(h1:c x y<=0)(h2:c y z<0):c x z<0:=by
 have h3:=h.trans x y z h1 (by omega);rcases vH h3 with h4|h4
 exact h4
 .have e:=(h.zero x z).1 h4;subst e;have:=h.anti x y;omega
theorem qJ.self(h:qJ c)(x:K):c x x=0:=(h.zero x x).2 rfl
theorem qJ.ne(h:qJ c){x y:K}(hl:c x y<0):x≠y:=fun e=>by subst e;have:=h.self x;omega
theorem qJ.gt(h:qJ c){x y:K}(hl:¬c x y<=0):c y x<0:=by have:=h.anti x y;omega
def wQ(c:K->K->Int)(l:List K):Prop:=l.Pairwise fun a b=>c a b<0
theorem NV(h:qJ c):∀{l m:List K},wQ c l->wQ c m->(∀x,x∈l<->x∈m)->l=m
 | [],[],_,_,_=>rfl
 | [],y::m,_,_,he=>by have:=(he y).2 (by simp);simp at this
 |x::l,[],_,_,he=>by have:=(he x).1 (by simp);simp at this
 |x::l,y::m,hl,hm,he=>by
  have hl:=yd.1 hl;have hm:=yd.1 hm
  have hxy:x=y:=by
   rcases zL.1 ((he x).1 (by simp))with e|hx
   exact e
   .rcases zL.1 ((he y).2 (by simp))with e|hy
    exact e.symm
    .have h1:=hm.1 x hx;have h2:=hl.1 y hy;have:=h.anti x y;omega
  subst hxy;congr 1;refine NV h hl.2 hm.2 fun z=>⟨fun hz=>?_,fun hz=>?_⟩
  .rcases zL.1 ((he z).1 (by simp[hz]))with e|h1
   subst e;exact(h.ne (hl.1 _ hz) rfl).elim;exact h1
  .rcases zL.1 ((he z).2 (by simp[hz]))with e|h1
   subst e;exact(h.ne (hm.1 _ hz) rfl).elim;exact h1
end
section
variable {K:Type}[DecidableEq K]{c:K->K->Int}
def Z5:List K->List K
 | []=>[]
 | [a]=>[a]
 |a::b::l=>if a=b then Z5 (b::l)else a::Z5 (b::l)
theorem Uo:∀(l:List K) (x:K),x∈Z5 l<->x∈l
 | [],x=>by simp[Z5]
 | [a],x=>by simp[Z5]
 |a::b::l,x=>by
  have ih:=Uo (b::l) x;unfold Z5;split
  rename_i e;subst e;rw[ih];simp;rw[zL,ih];simp[zL]
def q9(c:K->K->Int)(x y:K):Bool:=!(decide (c y x<0))
theorem UW(h:qJ c){x y:K}:q9 c x y=true<->c x y<=0:=by
 have:=h.anti x y;unfold q9;simp only[Bool.not_eq_true',yl];omega
theorem UX(h:qJ c):∀(l:List K),l.Pairwise (fun a b=>c a b<=0)->wQ c (Z5 l)
 | [],_=>List.Pairwise.nil
 | [a],_=>by simp[Z5,wQ]
 |a::b::l,hp=>by
  have hp':=yd.1 hp;have ih:=UX h (b::l) hp'.2;unfold Z5;split
  exact ih
  .rename_i hne;refine yd.2 ⟨fun x hx=>?_,ih⟩;rw[Uo]at hx
   have hab:c a b<0:=by
    have h1:=hp'.1 b (by simp);have h2:c a b≠0:=fun e=>hne ((h.zero a b).1 e);omega
   rcases zL.1 hx with rfl|hx
   exact hab;exact h.lt_trans hab ((yd.1 hp'.2).1 x hx)
def wj(c:K->K->Int)(l:List K):List K:=Z5 (l.mergeSort (q9 c))
theorem JI(l:List K)(x:K):x∈wj c l<->x∈l:=by
 unfold wj;rw[Uo];exact List.mem_mergeSort
theorem X6(h:qJ c)(l:List K):wQ c (wj c l):=by
 refine UX h _ ?_
 have:=List.pairwise_mergeSort (le:=q9 c) (fun a b d h1 h2=>by rw[UW h]at*;exact h.trans a b d h1 h2) (fun a b=>by
  have:=h.anti a b
  rw[yU,UW h,UW h];omega) l
 exact this.imp fun h1=>(UW h).1 h1
theorem DL(h:qJ c){l m:List K}(hm:wQ c m)(he:∀x,x∈m<->x∈l):m=wj c l:=NV h hm (X6 h l) fun x=>(he x).trans (JI l x).symm
theorem DM:∀(l:List K),(Z5 l).length<=l.length
 | []=>by simp[Z5]
 | [a]=>by simp[Z5]
 |a::b::l=>by
  have ih:=DM (b::l);unfold Z5;split
  simp only[List.length_cons]at ih⊢;omega;simp only[List.length_cons]at ih⊢;omega
theorem Km(l:List K):(wj c l).length<=l.length:=by
 have:=DM (l.mergeSort (q9 c));rw[yt]at this;exact this
def Vd(c:K->K->Int)(out:List K)(q:K):List K:=match out.getLast? with
 |none=>[q]
 |some z=>if c z q<0 then out++ [q]else out
def Yg(c:K->K->Int)(out:List K):List K->List K->List K
 | [],[]=>out
 |x::a,[]=>Yg c (Vd c out x) a []
 | [],y::b=>Yg c (Vd c out y) [] b
 |x::a,y::b=>if c x y<=0 then Yg c (Vd c out x) a (y::b)else Yg c (Vd c out y) (x::a) b
termination_by a b=>a.length+b.length
theorem Jx(h:qJ c){out:List K}{q:K}(ho:wQ c out)(hq:∀x∈out,c x q<=0):wQ c (Vd c out q)/\∀x,x∈Vd c out q<->x∈out\/x=q:=by
 unfold Vd;cases hg:out.getLast? with
 |none=>
  have:out=[]:=List.getLast?_eq_none_iff.1 hg;subst this;exact⟨by simp[wQ],by simp⟩
 |some z=>
  obtain⟨pre,rfl⟩:=List.getLast?_eq_some_iff.1 hg;simp only;have ho':=List.pairwise_append.1 ho;split
  .rename_i hz;refine⟨List.pairwise_append.2 ⟨ho,List.pairwise_singleton ..,fun x hx y hy=>?_⟩,fun x=>by simp only[zQ,zI]⟩;have hy:=zI.1 hy;subst hy;rcases zQ.1 hx with hx|hx
   exact h.lt_trans (ho'.2.2 x hx z (by simp)) (by omega);have:=zI.1 hx;subst this;exact hz
  .rename_i hz;have he:z=q:=(h.zero z q).1 (by have:=hq z (by simp);omega);subst he;exact⟨ho,fun x=>by simp only[zQ,zI];grind⟩
theorem Ve(h:qJ c):∀(n:Nat) (out a b:List K),a.length+b.length=n->wQ c out->wQ c a->wQ c b->(∀x∈out,∀y,y∈a\/y∈b->c x y<=0)->wQ c (Yg c out a b)/\∀x,x∈Yg c out a b<->x∈out\/x∈a\/x∈b
 |n,out,[],[],hn,ho,ha,hb,hh=>by unfold Yg;exact⟨ho,by simp⟩
 |0,out,x::a,b,hn,_,_,_,_=>by simp at hn
 |0,out,[],y::b,hn,_,_,_,_=>by simp at hn
 |n+1,out,x::a,[],hn,ho,ha,hb,hh=>by
  have eN:=yd.1 ha;obtain⟨h1,h2⟩:=Jx h ho (q:=x) fun z hz=>hh z hz x (by simp)
  obtain⟨h3,h4⟩:=Ve h n (Vd c out x) a [] (by simp at hn⊢;omega) h1 eN.2 hb (fun z hz y hy=>by
   rcases(h2 z).1 hz with hz|rfl
   exact hh z hz y (by simpa using Or.inr (by simpa using hy))
   .have:y∈a:=by simpa using hy
    have:=eN.1 y this;omega)
  unfold Yg;refine⟨h3,fun z=>?_⟩;rw[h4,h2];simp only[zL,xq,or_false]
  grind
 |n+1,out,[],y::b,hn,ho,ha,hb,hh=>by
  have hb':=yd.1 hb;obtain⟨h1,h2⟩:=Jx h ho (q:=y) fun z hz=>hh z hz y (by simp)
  obtain⟨h3,h4⟩:=Ve h n (Vd c out y) [] b (by simp at hn⊢;omega) h1 ha hb'.2 (fun z hz w hw=>by
   have hw:w∈b:=by simpa using hw
   rcases(h2 z).1 hz with hz|rfl
   exact hh z hz w (by simp[hw])
   have:=hb'.1 w hw;omega)
  unfold Yg;refine⟨h3,fun z=>?_⟩;rw[h4,h2];simp only[zL,xq,false_or]
  grind
 |n+1,out,x::a,y::b,hn,ho,ha,hb,hh=>by
  have eN:=yd.1 ha;have hb':=yd.1 hb;unfold Yg;split
  .rename_i hxy;obtain⟨h1,h2⟩:=Jx h ho (q:=x) fun z hz=>hh z hz x (by simp)
   obtain⟨h3,h4⟩:=Ve h n (Vd c out x) a (y::b) (by simp at hn⊢;omega) h1 eN.2 hb (fun z hz w hw=>by
    rcases(h2 z).1 hz with hz|rfl
    exact hh z hz w (by rcases hw with hw|hw<;>simp[hw]<;>simp at hw<;>simp[hw])
    .rcases hw with hw|hw
     have:=eN.1 w hw;omega
     .rcases zL.1 hw with rfl|hw
      exact hxy
      exact h.trans _ _ _ hxy (by have:=hb'.1 w hw;omega))
   refine⟨h3,fun z=>?_⟩;rw[h4,h2];simp only[zL]
   grind
  .rename_i hxy;have Ko:=h.gt hxy;obtain⟨h1,h2⟩:=Jx h ho (q:=y) fun z hz=>hh z hz y (by simp)
   obtain⟨h3,h4⟩:=Ve h n (Vd c out y) (x::a) b (by simp at hn⊢;omega) h1 ha hb'.2 (fun z hz w hw=>by
    rcases(h2 z).1 hz with hz|rfl
    exact hh z hz w (by rcases hw with hw|hw<;>simp[hw]<;>simp at hw<;>simp[hw])
    .rcases hw with hw|hw
     .rcases zL.1 hw with rfl|hw
      omega;exact h.trans _ x _ (by omega) (by have:=eN.1 w hw;omega)
     have:=hb'.1 w hw;omega)
   refine⟨h3,fun z=>?_⟩;rw[h4,h2];simp only[zL]
   grind
end
end Go.Our
namespace Go.Our
section
variable {K:Type}{c:K->K->Int}
theorem NW:wQ c ([]:List K):=List.Pairwise.nil
def wanted(f b s p q:Prop):Prop:=(f/\p/\¬q)\/(b/\p/\q)\/(s/\¬p/\q)
end
section
variable {K:Type}[DecidableEq K]{c:K->K->Int}
theorem NY(h:qJ c){xs ys l:List K}(hx:wQ c xs)(hy:wQ c ys)(hl:∀z,z∈l<->z∈xs\/z∈ys):Yg c [] xs ys=wj c l:=by
 obtain⟨h1,h2⟩:=Ve h _ [] xs ys rfl NW hx hy (by simp);exact DL h h1 fun z=>by rw[h2,hl];simp
def UY(c:K->K->Int)(l:List K):List K:=if l.length<2 then l else Yg c [] (UY c (l.take (l.length/2))) (UY c (l.drop (l.length/2)))
termination_by l.length
decreasing_by
 simp only[zq];omega;simp only[zD];omega
theorem Fx(h:qJ c):∀(n:Nat) (l:List K),l.length<=n->UY c l=wj c l
 |0,l,hn=>by
  have:l=[]:=zM.1 (by omega);subst this;unfold UY;simp[wj,Z5]
 |n+1,l,hn=>by
  unfold UY;split
  .match l with
   | []=>simp[wj,Z5]
   | [x]=>simp[wj,Z5]
   |x::y::l=>simp at*;omega
  .rw[Fx h n _ (by simp;omega),Fx h n _ (by simp;omega)];refine NY h (X6 h _) (X6 h _) fun z=>?_;rw[JI,JI,<-zQ,yW]
theorem Jy:∀{l:List K} {i:Nat} (h0:1<=i) (h:i<l.length),Z5 (l.take (i+1))=if l[i]=l[i-1]'(by omega)then Z5 (l.take i)else Z5 (l.take i)++ [l[i]]
 | [],i,_,h=>by simp at h
 | [a],i,h0,h=>by simp at h;omega
 |a::b::l,0,h0,h=>by omega
 |a::b::l,1,h0,h=>by
  simp only[List.take_succ_cons,List.take_zero,Z5,List.getElem_cons_succ,List.getElem_cons_zero,vI];by_cases e:a=b
  subst e;simp;rw[z7 e,z7 (fun h=>e h.symm)];rfl
 |a::b::l,i+2,h0,h=>by
  have hi:i+1< (b::l).length:=by simpa using h
  have ih:=Jy (l:=b::l) (i:=i+1) (by omega) hi;have e2:(a::b::l)[i+2-1]'(by simp at h⊢;omega)=(b::l)[i+1-1]'(by simp at h⊢;omega):=rfl;have e3:(a::b::l)[i+2]=(b::l)[i+1]:=rfl;rw[e2,e3];simp only[List.take_succ_cons,Z5]at ih⊢;by_cases e:a=b
  simp only[zf e];exact ih
  .simp only[z7 e,ih];split<;>simp
theorem DN{l:List K}(h:l.length<2):Z5 l=l:=by
 match l,h with
 | [],_=>rfl
 | [a],_=>rfl
theorem NZ{l:List K}:Z5 (l.take 1)=l.take 1:=DN (by simp;omega)
end
section
variable {K:Type}[DecidableEq K]{c:K->K->Int}
def oD(out:List K)(q:K):List K:=match out.getLast? with
 |none=>[q]
 |some z=>if z≠q then out++ [q]else out
def Yq(c:K->K->Int)(out:List K):List K->List K->List K
 | [],[]=>out
 |x::a,[]=>Yq c (oD out x) a []
 | [],y::b=>Yq c (oD out y) [] b
 |x::a,y::b=>if c x y<=0 then Yq c (oD out x) a (y::b)else Yq c (oD out y) (x::a) b
termination_by a b=>a.length+b.length
theorem Fy(h:qJ c){out:List K}{q:K}(hq:∀x∈out,c x q<=0):oD out q=Vd c out q:=by
 unfold oD Vd;cases hg:out.getLast? with
 |none=>rfl
 |some z=>
  have hz:z∈out:=List.mem_of_getLast? hg;have:=hq z hz;simp only;by_cases e:z=q
  .subst e;have:=h.self z;rw[z7 (by simp),z7 (by omega)]
  .have:c z q≠0:=fun e2=>e ((h.zero z q).1 e2);rw[zf e,zf (by omega)]
theorem UZ(h:qJ c):∀(n:Nat) (out a b:List K),a.length+b.length=n->wQ c out->wQ c a->wQ c b->(∀x∈out,∀y,y∈a\/y∈b->c x y<=0)->Yq c out a b=Yg c out a b
 |n,out,[],[],hn,ho,ha,hb,hh=>by unfold Yq Yg;rfl
 |0,out,x::a,b,hn,_,_,_,_=>by simp at hn
 |0,out,[],y::b,hn,_,_,_,_=>by simp at hn
 |n+1,out,x::a,[],hn,ho,ha,hb,hh=>by
  have eN:=yd.1 ha;obtain⟨h1,h2⟩:=Jx h ho (q:=x) fun z hz=>hh z hz x (by simp);unfold Yq Yg;rw[Fy h fun z hz=>hh z hz x (by simp)]
  exact UZ h n (Vd c out x) a [] (by simp at hn⊢;omega) h1 eN.2 hb (fun z hz y hy=>by
   rcases(h2 z).1 hz with hz|rfl
   exact hh z hz y (by simpa using Or.inr (by simpa using hy))
   .have:y∈a:=by simpa using hy
    have:=eN.1 y this;omega)
 |n+1,out,[],y::b,hn,ho,ha,hb,hh=>by
  have hb':=yd.1 hb;obtain⟨h1,h2⟩:=Jx h ho (q:=y) fun z hz=>hh z hz y (by simp);unfold Yq Yg;rw[Fy h fun z hz=>hh z hz y (by simp)]
  exact UZ h n (Vd c out y) [] b (by simp at hn⊢;omega) h1 ha hb'.2 (fun z hz w hw=>by
   have hw:w∈b:=by simpa using hw
   rcases(h2 z).1 hz with hz|rfl
   exact hh z hz w (by simp[hw])
   have:=hb'.1 w hw;omega)
 |n+1,out,x::a,y::b,hn,ho,ha,hb,hh=>by
  have eN:=yd.1 ha;have hb':=yd.1 hb;unfold Yq Yg;split
  .rename_i hxy;obtain⟨h1,h2⟩:=Jx h ho (q:=x) fun z hz=>hh z hz x (by simp);rw[Fy h fun z hz=>hh z hz x (by simp)]
   exact UZ h n (Vd c out x) a (y::b) (by simp at hn⊢;omega) h1 eN.2 hb (fun z hz w hw=>by
    rcases(h2 z).1 hz with hz|rfl
    exact hh z hz w (by rcases hw with hw|hw<;>simp[hw]<;>simp at hw<;>simp[hw])
    .rcases hw with hw|hw
     have:=eN.1 w hw;omega
     .rcases zL.1 hw with rfl|hw
      exact hxy
      exact h.trans _ _ _ hxy (by have:=hb'.1 w hw;omega))
  .rename_i hxy;have Ko:=h.gt hxy;obtain⟨h1,h2⟩:=Jx h ho (q:=y) fun z hz=>hh z hz y (by simp);rw[Fy h fun z hz=>hh z hz y (by simp)]
   exact UZ h n (Vd c out y) (x::a) b (by simp at hn⊢;omega) h1 ha hb'.2 (fun z hz w hw=>by
    rcases(h2 z).1 hz with hz|rfl
    exact hh z hz w (by rcases hw with hw|hw<;>simp[hw]<;>simp at hw<;>simp[hw])
    .rcases hw with hw|hw
     .rcases zL.1 hw with rfl|hw
      omega;exact h.trans _ x _ (by omega) (by have:=eN.1 w hw;omega)
     have:=hb'.1 w hw;omega)
def WD(c:K->K->Int)(l:List K):List K:=if l.length<2 then l else Yq c [] (WD c (l.take (l.length/2))) (WD c (l.drop (l.length/2)))
termination_by l.length
decreasing_by
 simp only[zq];omega;simp only[zD];omega
theorem Fz(h:qJ c):∀(n:Nat) (l:List K),l.length<=n->WD c l=wj c l
 |0,l,hn=>by
  have:l=[]:=zM.1 (by omega);subst this;unfold WD;simp[wj,Z5]
 |n+1,l,hn=>by
  unfold WD;split
  .match l with
   | []=>simp[wj,Z5]
   | [x]=>simp[wj,Z5]
   |x::y::l=>simp at*;omega
  .rw[Fz h n _ (by simp;omega),Fz h n _ (by simp;omega),UZ h _ _ _ _ rfl NW (X6 h _) (X6 h _) (by simp)];refine NY h (X6 h _) (X6 h _) fun z=>?_;rw[JI,JI,<-zQ,yW]
theorem Zi6{J:Type}[DecidableEq J]{d:J->J->Int}(h:qJ c)(h':qJ d)(f:K->J)(hf:∀x y,d (f x) (f y)=c x y)(l:List K):(wj c l).map f=wj d (l.map f):=by
 refine DL h' ?_ fun y=>?_
 .have:=X6 h l;unfold wQ at this⊢;rw[List.pairwise_map];exact this.imp fun{a b} hab=>by rw[hf];exact hab
 simp only[yc,JI]
end
def Y0(t:Tm):List (List UInt8):=if t.k=2 then [t.t]else []
def Zw(q:Qd):List (List UInt8):=Y0 q.s++Y0 q.p++Y0 q.o++Y0 q.g
def Zz(l:List Qd):List (List UInt8):=l.flatMap Zw
def Yh(s:List UInt8):Tm:=⟨2,s,[],[]⟩
theorem ZdM(x y:List UInt8):YH (Yh x) (Yh y)=cmpL x y:=by
 have h1:uY 2 2=0:=by decide
 have h2:cmpL ([]:List UInt8) []=0:=qA.self [];simp only[YH,Yh,Tm.key,XX,h1,h2];split<;>simp_all
theorem ZbP(l:List (List UInt8)):(wj YH (l.map Yh)).map Tm.t=wj cmpL l:=by
 rw[<-Zi6 qA bK Yh ZdM,xo];conv=>rhs;rw[<-List.map_id (wj cmpL l)]
 rfl
abbrev Pr:=List UInt8×List UInt8
def dM(ps:List Pr)(s:List UInt8):Option (List UInt8):=(ps.find? fun p=>decide (p.1=s)).map Prod.snd
def nX(ps:List Pr)(t:Tm):Tm:=if t.k=2 then match dM ps t.t with|some u=>{t with t:=u}|none=>t else t
def oE(ps:List Pr)(q:Qd):Qd:=⟨nX ps q.s,nX ps q.p,nX ps q.o,nX ps q.g⟩
end Go.Our
namespace Go.Our
open Go.Sx
structure bL(Z:Type)[DecidableEq Z] where
 ks:Bool×List CK
 enc:Z->SV
 is:∀a b,bE ks (enc a) (enc b)=decide (a=b)
 ok:∀a,JF ks (enc a)=true
 pl:∀a,plain (enc a)=true
section
variable {Z Y:Type}[DecidableEq Z](K:bL Z)
def Up(f:Y->SV)(l:List (Z×Y)):List (List SV):=l.map fun p=>[K.enc p.1,f p.2]
def YU(es:Nat)(f:Y->List (List SV))(l:List (Z×Y)):List (List DC):=l.map fun p=>[.v (K.enc p.1), .uA es (f p.2)]
def jb(a:Z):List (Z×Y)->Option (Nat×Y)
 | []=>none
 |(k,v)::r=>if a=k then some (0,v)else(jb a r).map fun p=>(p.1+1,p.2)
def wL(a:Z):List (Z×Y)->Option Y
 | []=>none
 |(k,v)::r=>if a=k then some v else wL a r
def wM(a:Z)(v:Y):List (Z×Y)->List (Z×Y)
 | []=>[(a,v)]
 |(k,u)::r=>if a=k then(k,v)::r else(k,u)::wM a v r
theorem DP(a:Z):∀l:List (Z×Y),(jb a l).map Prod.snd=wL a l
 | []=>rfl
 |(k,v)::r=>by
  unfold jb wL;split
  rfl
  rw[Option.map_map,<-DP a r];rfl
theorem Uq{a:Z}{l:List (Z×Y)}(h:jb a l=none):wL a l=none:=by rw[<-DP,h];rfl
theorem Kq{a:Z}{l:List (Z×Y)}{i:Nat}{v:Y}(h:jb a l=some (i,v)):wL a l=some v:=by rw[<-DP,h];rfl
theorem Kr(a b:Z)(v:Y):∀l:List (Z×Y),wL b (wM a v l)=if b=a then some v else wL b l
 | []=>by
   simp only[wM,wL]
 |(k,u)::r=>by
  unfold wM;by_cases h:a=k
  .subst h;rw[zf rfl];simp only[wL];by_cases e:b=a
   rw[zf e,zf e];rw[z7 e,z7 e,z7 e]
  .rw[z7 h];simp only[wL,Kr a b v r];by_cases e:b=k
   subst e;rw[zf rfl,z7 (fun e=>h e.symm),zf rfl];rw[z7 e,z7 e]
theorem FA(f:Y->SV)(a:Z):∀(l:List (Z×Y)) (i:Nat),Xs K.ks (K.enc a) i (Up K f l)=(jb a l).map fun p=>(i+p.1,f p.2)
 | [],i=>rfl
 |(k,v)::r,i=>by
  have ih:=FA f a r (i+1);simp only[Up,zG,Xs,K.is,jb]at ih⊢;by_cases h:a=k
  simp[h]
  .simp only[h,decide_false,xG,ih,Option.map_map];congr 1;funext p;simp only[Function.comp,yF,xm];omega
theorem JR(f:Y->SV)(l:List (Z×Y)):JP K.ks (Up K f l):=by
 intro r hr;obtain⟨p,_,rfl⟩:=yc.1 hr;exact⟨_,_,rfl,K.ok _⟩
theorem Wp{a:Z}{v:Y}:∀{l:List (Z×Y)} {i:Nat} {u:Y},jb a l=some (i,u)->wM a v l=l.modify i (fun p=>(p.1,v))
 | [],_,_,h=>by cases h
 |(k,w)::r,i,u,h=>by
  unfold jb at h;unfold wM;split at h
  .rename_i e;injection h with h;injection h with h1 h2;subst h1;rw[zf e,List.modify_zero_cons]
  .rename_i e;obtain⟨⟨j,x⟩,hj,he⟩:=zC.1 h;injection he with h1 h2;subst h1;rw[z7 e,List.modify_succ_cons,Wp hj]
theorem DQ{a:Z}{v:Y}:∀{l:List (Z×Y)},jb a l=none->wM a v l=l++ [(a,v)]
 | [],_=>rfl
 |(k,w)::r,h=>by
  unfold jb at h;unfold wM;split at h
  cases h
  .rename_i e;rw[z7 e,List.cons_append,DQ (by simpa using h)]
theorem DR(f:Y->SV)(a:Z)(v:Y)(l:List (Z×Y)):jZ K.ks (K.enc a) (f v) (Up K f l)=Up K f (wM a v l):=by
 unfold jZ;rw[FA];cases h:jb a l with
 |none=>simp only[Option.map_none];rw[DQ h];simp[Up]
 |some p=>
  obtain⟨i,u⟩:=p;simp only[Option.map_some,zx];rw[Wp h];unfold Up;apply yu;intro j;rw[yo,z6,z6,yo];by_cases e:i=j
  .subst e;cases l[i]?<;>simp[ew]
  cases l[j]?<;>simp[e]
theorem DT(f:Y->SV)(hf:∀b,plain (f b)=true)(l:List (Z×Y)):Zj (Up K f l)=true:=by
 unfold Up;exact ZD _ (fun p=>by simp only[YJ,K.pl,hf,zB]) l
theorem iQ(es:Nat)(f:Y->List (List SV))(a:Z):∀(l:List (Z×Y)) (i:Nat),findD K.ks (K.enc a) i (YU K es f l)=(jb a l).map fun p=>(i+p.1, .uA es (f p.2))
 | [],i=>rfl
 |(k,v)::r,i=>by
  have ih:=iQ es f a r (i+1);simp only[YU,zG,findD,ZS,K.is,jb]at ih⊢;by_cases h:a=k
  simp[h]
  .simp only[h,decide_false,xG,ih,Option.map_map];congr 1;funext p;simp only[Function.comp,yF,xm];omega
theorem M0(es:Nat)(f:Y->List (List SV))(l:List (Z×Y)):JP K.ks (Zy (YU K es f l)):=by
 intro r hr;unfold Zy YU at hr;rw[xo]at hr;obtain⟨p,_,rfl⟩:=yc.1 hr;exact⟨_,_,rfl,K.ok _⟩
theorem ZjJ(es:Nat)(f:Y->List (List SV))(a:Z)(v:Y)(l:List (Z×Y)):kE K.ks (K.enc a) (.uA es (f v)) (YU K es f l)=YU K es f (wM a v l):=by
 unfold kE;rw[iQ];cases h:jb a l with
 |none=>simp only[Option.map_none];rw[DQ h];simp[YU]
 |some p=>
  obtain⟨i,u⟩:=p;simp only[Option.map_some,zx];rw[Wp h];unfold YU;apply yu;intro j;rw[yo,z6,z6,yo];by_cases e:i=j
  .subst e;cases l[i]?<;>simp[jl]
  cases l[j]?<;>simp[e]
theorem DU{a:Z}:∀{l:List (Z×Y)} {i:Nat} {u:Y},jb a l=some (i,u)->l[i]?=some (a,u)
 | [],i,u,h=>by cases h
 |(k,w)::l,i,u,h=>by
  unfold jb at h;split at h
  .rename_i e;injection h with h;injection h with h1 h2;subst h1 h2 e
   rfl
  .obtain⟨⟨j,x⟩,hj,he⟩:=zC.1 h;injection he with h1 h2;subst h1 h2;simpa using DU hj
theorem Zi7(es:Nat)(f:Y->List (List SV))(d:DC){a:Z}{v:Y}{l:List (Z×Y)}{i j:Nat}{u:Y}(h:jb a l=some (i,u))(hj:j=i):((YU K es f l).modify i (jl d)).modify j (jl (.uA es (f v)))=YU K es f (wM a v l):=by
 subst hj;rw[Wp h];unfold YU;apply yu;intro k;rw[yo,yo,z6,z6,yo];by_cases e:j=k
 .subst e;rw[DU h];simp[jl]
 cases l[k]?<;>simp[e]
theorem M1(es:Nat)(f:Y->List (List SV))(hf:∀b,Zj (f b)=true):∀l:List (Z×Y),ZB (YU K es f l)=true
 | []=>rfl
 |p::l=>by
  have ih:=M1 es f hf l;unfold YU at ih⊢;simp only[zG,ZB,Yr,JN,K.pl,hf,ih,zB]
end
section
variable {Z Y:Type}[DecidableEq Z]
theorem eu.A(K:bL Z)(f:Y->SV)(a:Z)(l:List (Z×Y)){J:Type}{A:Nat->SV->J->Prop}{B:J->Prop}{j:J}(hs:∀i v,jb a l=some (i,v)->A (0+i) (f v) j)(hn:jb a l=none->B j):eu (Xs K.ks (K.enc a) 0 (Up K f l)) A B j:=by
 refine eu.mk (fun i v hf=>?_) (fun hf=>?_)
 .obtain⟨⟨k,x⟩,hj,he⟩:=zC.1 ((FA K f a l 0).symm.trans hf);cases he
  exact hs _ _ hj
 exact hn (Option.map_eq_none_iff.1 ((FA K f a l 0).symm.trans hf))
theorem wV.A(K:bL Z)(es:Nat)(f:Y->List (List SV))(a:Z)(l:List (Z×Y)){J:Type}{A:Nat->DC->J->Prop}{B:J->Prop}{j:J}(hs:∀i v,jb a l=some (i,v)->A (0+i) (.uA es (f v)) j)(hn:jb a l=none->B j):wV (findD K.ks (K.enc a) 0 (YU K es f l)) A B j:=by
 refine wV.mk (fun i v hf=>?_) (fun hf=>?_)
 .obtain⟨⟨k,x⟩,hj,he⟩:=zC.1 ((iQ K es f a l 0).symm.trans hf);cases he
  exact hs _ _ hj
 exact hn (Option.map_eq_none_iff.1 ((iQ K es f a l 0).symm.trans hf))
end
def KQ:bL Qd where
 ks:=(true,[.int .i64, .str, .str, .str, .int .i64, .str, .str, .str, .int .i64, .str, .str, .str, .int .i64, .str, .str, .str])
 enc:=Qd.sv
 is a b:=by
  obtain⟨⟨a1,a2,a3,a4⟩,⟨a5,a6,a7,a8⟩,⟨a9,b1,b2,b3⟩,⟨b4,b5,b6,b7⟩⟩:=a;obtain⟨⟨c1,c2,c3,c4⟩,⟨c5,c6,c7,c8⟩,⟨c9,d1,d2,d3⟩,⟨d4,d5,d6,d7⟩⟩:=b;rw[zX];simp[bE,V4,ZT,Zi,Qd.sv,XQ];simp only[and_assoc]
 ok a:=by simp[JF,V4,ZT,Zi,Qd.sv,XQ]
 pl a:=rfl
def KT:bL (List UInt8) where
 ks:=(false,[.str])
 enc:= .str
 is a b:=by rw[zX];simp[bE,V4,ZT,Zi]
 ok a:=by simp[JF,V4,ZT,Zi]
 pl a:=rfl
def KI:bL Int where
 ks:=(false,[.int .i64])
 enc:= .int .i64
 is a b:=by rw[zX];simp[bE,V4,ZT,Zi,XQ]
 ok a:=by simp[JF,V4,ZT,Zi,XQ]
 pl a:=rfl
abbrev LB:=List UInt8
end Go.Our
namespace Go.Our
open Go Go.Sx
structure Sd where
 q:Qd
 a:Int
 b:Int
 c:Int
 d:Int
def DV(s:Sd):List SV:=[.int .i64 s.q.s.k, .str s.q.s.t, .str s.q.s.y, .str s.q.s.l, .int .i64 s.q.p.k, .str s.q.p.t, .str s.q.p.y, .str s.q.p.l, .int .i64 s.q.o.k, .str s.q.o.t, .str s.q.o.y, .str s.q.o.l, .int .i64 s.q.g.k, .str s.q.g.t, .str s.q.g.y, .str s.q.g.l,
 .int .i64 s.a, .int .i64 s.b, .int .i64 s.c, .int .i64 s.d]
theorem Zi9(l:List Sd):Zj (l.map DV)=true:=ZD _ (fun _=>rfl) l
instance :dZ DV:=⟨fun _=>rfl⟩
def M3(l:List Sd):List DC:=[.uA 20 (l.map DV)]
def DW(ins:List (List Sd)):List (List DC):=ins.map M3
theorem M4:∀ins:List (List Sd),ZB (DW ins)=true
 | []=>rfl
 |l::ins=>by simp only[DW,zG,M3,ZB,Yr,JN,Zi9,zB,xd];exact M4 ins
instance {ins:List (List Sd)}:bu (DW ins):=⟨M4 ins⟩
def mM(f:LB->Int)(t:Tm):Int:=if t.k=2 then f t.t else-1
def nY(q:Qd):List Tm:=[q.s,q.p,q.o,q.g]
def DX(f:LB->Int)(acc:List Int)(t:Tm):List Int:=if t.k=2 then(if f t.t∈acc then acc else acc++ [f t.t])else acc
end Go.Our
namespace Go.Our
open Go.Sx
abbrev KS:Bool×List CK:=(false,[CK.str])
theorem M5(a b:List UInt8):bE KS (.str a) (.str b)=(a==b):=by simp[bE,V4,ZT,Zi]
theorem ZdP(a:List UInt8):JF KS (.str a)=true:=by simp[JF,V4,ZT,Zi]
def qB(rs:List (List SV)):Prop:=∀r∈rs,∃(k:List UInt8) (v:SV),r=[.str k,v]
theorem qB.ok{rs:List (List SV)}(h:qB rs):JP KS rs:=fun r hr=>let⟨k,v,e⟩:=h r hr;⟨_,v,e,ZdP k⟩
def jQ(rs:List (List SV))(a:List UInt8):Option SV:=(Xs KS (.str a) 0 rs).map Prod.snd
theorem M6(key:SV):∀(rs:List (List SV)) (i j:Nat),(Xs KS key i rs).map Prod.snd=(Xs KS key j rs).map Prod.snd
 | [],i,j=>rfl
 |r::rs,i,j=>by
  unfold Xs;split
  .split
   rfl
   exact M6 key rs (i+1) (j+1)
  rfl
theorem Jz(k a:List UInt8)(v:SV)(rs:List (List SV)):jQ ([.str k,v]::rs) a=if a=k then some v else jQ rs a:=by
 unfold jQ;conv=>lhs;unfold Xs
 simp only[M5];by_cases e:a=k
 subst e;simp
 .have:(a==k)=false:=by simpa using e
  rw[this,z7 e];exact M6 _ rs 1 0
theorem Z9m{rs:List (List SV)}(h:qB rs)(k a:List UInt8)(v:SV)(hk:jQ rs k=none):jQ (rs++ [[.str k,v]]) a=if a=k then some v else jQ rs a:=by
 induction rs with
 |nil=>rw[List.nil_append,Jz]
 |cons r rs ih=>
  obtain⟨k',v',rfl⟩:=h r (zJ ..);rw[Jz]at hk;have hne:k≠k':=fun e=>by rw[zf e]at hk;cases hk
  rw[z7 hne]at hk;rw[List.cons_append,Jz,Jz,ih (fun r hr=>h r (zK _ hr)) hk];by_cases e:a=k'
  subst e;rw[zf rfl,zf rfl,z7 (fun e=>hne e.symm)];rw[z7 e,z7 e]
theorem M7{k:List UInt8}{v:SV}:∀{rs:List (List SV)} (h:qB rs) {i j:Nat} {u:SV} (hf:Xs KS (.str k) i rs=some (i+j,u)) (a:List UInt8),qB (rs.modify j (ew v))/\jQ (rs.modify j (ew v)) a=if a=k then some v else jQ rs a
 | [],h,i,j,u,hf,a=>by simp[Xs]at hf
 |r::rs,h,i,j,u,hf,a=>by
  obtain⟨k',v',rfl⟩:=h r (zJ ..);have ht:qB rs:=fun r hr=>h r (zK _ hr);unfold Xs at hf;simp only[M5]at hf;by_cases e:k=k'
  .subst e;simp at hf;obtain⟨rfl,_⟩:=hf;rw[List.modify_zero_cons];refine⟨fun r hr=>?_,?_⟩
   .rcases zL.1 hr with rfl|hr
    exact⟨k,v,rfl⟩;exact ht r hr
   .show jQ ([.str k,v]::rs) a=_
    rw[Jz,Jz];by_cases e:a=k
    rw[zf e,zf e];rw[z7 e,z7 e,z7 e]
  .have hb:(k==k')=false:=by simpa using e
   rw[hb]at hf;simp only at hf;cases j with
   |zero=>
    have hge:∀(rs:List (List SV)) (m n:Nat) (x:SV),Xs KS (.str k) m rs=some (n,x)->m<=n:=by
     intro rs
     induction rs with
     |nil=>intro m n x hh;simp[Xs]at hh
     |cons r rs ih=>
      intro m n x hh;unfold Xs at hh;split at hh
      .split at hh
       injection hh with hh;injection hh with h1 h2;omega;have:=ih _ _ _ hh;omega
      cases hh
    have:=hge _ _ _ _ hf;omega
   |succ j=>
    obtain⟨h1,h2⟩:=M7 ht (i:=i+1) (j:=j) (u:=u) (by rw[hf,show i+1+j=i+(j+1)by omega]) a;rw[List.modify_succ_cons];refine⟨fun r hr=>?_,?_⟩
    .rcases zL.1 hr with rfl|hr
     exact⟨k',v',rfl⟩;exact h1 r hr
    .rw[Jz,Jz,h2];by_cases e2:a=k'
     subst e2;rw[zf rfl,zf rfl,z7 (fun e3=>e e3.symm)];rw[z7 e2,z7 e2]
theorem DY{rs:List (List SV)}(h:qB rs)(k:List UInt8)(v:SV)(a:List UInt8):qB (jZ KS (.str k) v rs)/\jQ (jZ KS (.str k) v rs) a=if a=k then some v else jQ rs a:=by
 unfold jZ;cases hf:Xs KS (.str k) 0 rs with
 |none=>
  simp only;refine⟨fun r hr=>?_,Z9m h k a v (by unfold jQ;rw[hf];rfl)⟩;rcases zQ.1 hr with hr|hr
  exact h r hr;have:=zI.1 hr;subst this;exact⟨k,v,rfl⟩
 |some x=>
  obtain⟨j,u⟩:=x;simp only;exact M7 h (i:=0) (j:=j) (u:=u) (by rw[hf,zx]) a
end Go.Our
namespace Go.Our
open Go.Sx Go.Lib
theorem Z7Q(u:Nat):decDigits u≠ []:=by
 rw[decDigits];split<;>simp
theorem iR(u:Nat):(decDigits u).length<=u+1:=by
 induction u using Nat.strongRecOn with
 |_ u ih=>
  rw[decDigits];split
  simp
  .have:=ih (u/10) (by omega);rw[zh,List.length_singleton];omega
def FB(l:List UInt8):Nat:=l.foldl (fun a c=>a*10+(c.toNat-48)) 0
theorem M8(u:Nat):FB (decDigits u)=u:=by
 induction u using Nat.strongRecOn with
 |_ u ih=>
  rw[decDigits];split
  .rename_i h;simp only[FB,List.foldl_cons,List.foldl_nil,yO,zx,v7];omega
  .rename_i h;have:=ih (u/10) (by omega);unfold FB at this⊢;rw[vh,this];simp only[List.foldl_cons,List.foldl_nil,v7];omega
def lab(i:Nat):List UInt8:=98::decDigits i
def ZjL(used:List (List UInt8))(i:Nat):List (List UInt8):=((List.range i).map fun j=>lab (j+1)).filter fun s=>decide (s∉used)
def fresh(used:List (List UInt8))(n:Nat):List (List UInt8):=(ZjL used (used.length+n)).take n
def ZkD(s:List UInt8):List SV:=[.str s]
instance :dZ ZkD:=⟨fun _=>rfl⟩
theorem ZdQ{rs:List (List SV)}(h:Zj rs=true)(k:List UInt8)(i:Int):Zj (jZ KS (.str k) (.int .i64 i) rs)=true:=by
 have iff:∀rs:List (List SV),Zj rs=true<->∀r∈rs,YJ r=true:=by
  intro rs
  induction rs with
  |nil=>simp[Zj]
  |cons r rs ih=>simp[Zj,ih]
 rw[iff]at h⊢;unfold jZ;split
 .intro r hr;obtain⟨j,hj,rfl⟩:=yM.1 hr;rw[List.getElem_modify];have h0:=h (rs[j]'(by simpa using hj)) (zk _);split
  .generalize rs[j]'(by simpa using hj)=r0 at h0;unfold ew;split
   .simp only[YJ,plain,zF]at h0⊢;simpa using(by simpa using h0:plain _=true/\plain _=true).1
   exact h0
  exact h0
 .intro r hr;rcases zQ.1 hr with hr|hr
  exact h r hr;have:=zI.1 hr;subst this;rfl
structure Ks(l:List (List UInt8))(rs:List (List SV)):Prop where
 str:qB rs
 plain:Zj rs=true
 out:∀a,a∉l->jQ rs a=none
 mem:∀a,a∈l->∃k:Nat,0<k/\k<=l.length/\jQ rs a=some (.int .i64 (k:Int))
theorem Ks.nil:Ks [] []:=⟨fun _ h=>(xq h).elim,rfl,fun _ _=>rfl,fun _ h=>(xq h).elim⟩
theorem Ks.step{l:List (List UInt8)}{rs:List (List SV)}(h:Ks l rs)(s:List UInt8){k:Nat}(h0:0<k)(h1:k<=l.length+1):Ks (l++ [s]) (jZ KS (.str s) (.int .i64 (k:Int)) rs):=by
 refine⟨(DY h.str s _ []).1,ZdQ h.plain s _,fun a ha=>?_,fun a ha=>?_⟩
 .rw[zQ,zI,not_or]at ha;rw[(DY h.str s _ a).2,z7 ha.2];exact h.out a ha.1
 .rw[(DY h.str s _ a).2];by_cases e:a=s
  rw[zf e];exact⟨k,h0,by simpa using h1,rfl⟩
  .rw[z7 e];have:a∈l:=by simpa[e]using ha
   obtain⟨k',g0,g1,g2⟩:=h.mem a this;exact⟨k',g0,by simp;omega,g2⟩
end Go.Our
namespace Go.Our
section
variable {K:Type}[DecidableEq K]{c:K->K->Int}
theorem XB(h:qJ c){l:List K}(hl:wQ c l):l.Nodup:=List.Pairwise.imp (fun h1=>h.ne h1) hl
theorem M9(h:qJ c):∀{l m:List K},l.Pairwise (fun a b=>c a b<=0)->m.Pairwise (fun a b=>c a b<=0)->l.Perm m->l=m
 | [],m,_,_,hp=>(List.nil_perm.1 hp).symm
 |x::l,[],_,_,hp=>by have:=hp.length_eq;simp at this
 |x::l,y::m,hl,hm,hp=>by
  have hl':=yd.1 hl;have hm':=yd.1 hm
  have h1:c x y<=0:=by
   rcases zL.1 (hp.mem_iff.2 (zJ ..):y∈x::l)with e|e
   rw[e,h.self];omega;exact hl'.1 _ e
  have h2:c y x<=0:=by
   rcases zL.1 (hp.mem_iff.1 (zJ ..):x∈y::m)with e|e
   rw[e,h.self];omega;exact hm'.1 _ e
  have e:x=y:=(h.zero x y).1 (by have:=h.anti x y;omega);subst e;rw[M9 h hl'.2 hm'.2 (List.perm_cons _|>.1 hp)]
theorem Xa(h:qJ c)(l:List K):(l.mergeSort (q9 c)).Pairwise (fun a b=>c a b<=0):=by
 have:=List.pairwise_mergeSort (le:=q9 c) (fun a b d h1 h2=>by rw[UW h]at*;exact h.trans a b d h1 h2) (fun a b=>by
  have:=h.anti a b
  rw[yU,UW h,UW h];omega) l
 exact this.imp fun h1=>(UW h).1 h1
end
end Go.Our
namespace Go.Our
open Go.Sx Go.Lib
theorem DZ(u:Nat):∀c∈decDigits u,48<=c.toNat/\c.toNat<=57:=by
 induction u using Nat.strongRecOn with
 |_ u ih=>
  rw[decDigits];intro c hc;split at hc
  rw[zI.1 hc,v7];omega
  .rcases zQ.1 hc with hc|hc
   exact ih (u/10) (by omega) c hc;rw[zI.1 hc,v7];omega
theorem ZdR{n:Int}{c:UInt8}(h:c∈itoa n):c=45\/48<=c.toNat/\c.toNat<=57:=by
 unfold itoa at h;split at h
 .rcases zL.1 h with h|h
  exact .inl h;exact .inr (DZ _ _ h)
 exact .inr (DZ _ _ h)
theorem FC{u v:Nat}(h:decDigits u=decDigits v):u=v:=by
 have:=z8 FB h;rwa [M8,M8]at this
theorem Ma{u:Nat}{l:LB}(h:decDigits u=45::l):False:=by
 have:=DZ u 45 (by rw[h];exact zJ ..);revert this;decide
theorem ZfX{a b:Int}(h:itoa a=itoa b):a=b:=by
 unfold itoa at h;split at h<;>split at h
 have:=FC (yZ h).2;omega;exact(Ma h.symm).elim;exact(Ma h).elim;have:=FC h;omega
theorem Mb{d:UInt8}:∀{a b r s:LB},d∉a->d∉b->a++d::r=b++d::s->a=b/\r=s
 | [],[],_,_,_,_,h=>⟨rfl,(yZ h).2⟩
 | [],y::b,_,_,_,hb,h=>(hb (by rw[(yZ h).1];exact zJ ..)).elim
 |x::a,[],_,_,ha,_,h=>(ha (by rw[<-(yZ h).1];exact zJ ..)).elim
 |x::a,y::b,r,s,ha,hb,h=>by
  obtain⟨h1,h2⟩:=yZ h;obtain⟨h3,h4⟩:=Mb (fun hm=>ha (zK _ hm)) (fun hm=>hb (zK _ hm)) h2;exact⟨by rw[h1,h3],h4⟩
theorem FD{a b:Int}{d:UInt8}{r s:LB}(hd:d≠45)(hr:d.toNat<48\/57<d.toNat)(h:itoa a++d::r=itoa b++d::s):a=b/\r=s:=by
 have hn:∀n:Int,d∉itoa n:=fun n hm=>by
  rcases ZdR hm with e|e
  exact hd e;omega
 obtain⟨h1,h2⟩:=Mb (hn a) (hn b) h;exact⟨ZfX h1,h2⟩
structure Seen where
 self:Bool
 cls:Int
 tm:Tm
 deriving DecidableEq
def rq(s:Seen):Prop:=0<=s.cls/\(s.self=true->s.cls=0/\s.tm=ZC)/\(0<s.cls->s.tm=ZC)
def mN(s:LB):LB:=61::(itoa (s.length:Int)++58::s)
def FE(t:Tm):LB:=mN t.t++(mN t.y++(mN t.l++itoa t.k))
def ru(s:Seen):LB:=(if s.self=true then [64]else if 0<s.cls then 35::itoa (s.cls-1)else FE s.tm)++ [32]
theorem C0{a b r s:LB}(h:mN a++r=mN b++s):a=b/\r=s:=by
 unfold mN at h;simp only[List.cons_append,zR]at h;obtain⟨h1,h2⟩:=FD (by decide) (by decide) (yZ h).2;exact List.append_inj h2 (by omega)
theorem FF{a b:Seen}{r s:LB}(ha:rq a)(hb:rq b)(h:ru a++r=ru b++s):a=b/\r=s:=by
 obtain⟨sa,ca,ta⟩:=a;obtain⟨sb,cb,tb⟩:=b;obtain⟨a1,a2,a3⟩:=ha;obtain⟨b1,b2,b3⟩:=hb;simp only at a1 a2 a3 b1 b2 b3;unfold ru at h;simp only[zR]at h;have FG:∀t:Tm,∀w,FE t++w=61::(itoa (t.t.length:Int)++58::(t.t++(mN t.y++(mN t.l++(itoa t.k++w))))):=fun t w=>by unfold FE;rw[mN];simp
 cases sa
 .cases sb
  .simp only[xZ,xG]at h;by_cases ea:0<ca
   .by_cases eb:0<cb
    .rw[zf ea,zf eb]at h;obtain⟨h1,h2⟩:=FD (d:=32) (by decide) (by decide) (yZ h).2;have hc:ca=cb:=by omega
     subst hc;rw[a3 ea,b3 ea];exact⟨rfl,h2⟩
    .rw[zf ea,z7 eb,FG]at h;exact absurd (yZ h).1 (by decide)
   .by_cases eb:0<cb
    .rw[z7 ea,zf eb,FG]at h;exact absurd (yZ h).1 (by decide)
    .rw[z7 ea,z7 eb]at h;unfold FE at h;simp only[zR]at h;obtain⟨h1,h⟩:=C0 h;obtain⟨h2,h⟩:=C0 h;obtain⟨h3,h⟩:=C0 h;obtain⟨h4,h5⟩:=FD (d:=32) (by decide) (by decide) h;have hc:ca=cb:=by omega
     obtain⟨k,t,y,l⟩:=ta;obtain⟨k',t',y',l'⟩:=tb;simp only at h1 h2 h3 h4;subst hc h1 h2 h3 h4;exact⟨rfl,h5⟩
  .simp only[xZ,xG,yJ]at h;by_cases ea:0<ca
   .rw[zf ea]at h;exact absurd (yZ h).1 (by decide)
   .rw[z7 ea,FG]at h;exact absurd (yZ h).1 (by decide)
 .cases sb
  .simp only[xZ,xG,yJ]at h;by_cases eb:0<cb
   .rw[zf eb]at h;exact absurd (yZ h).1 (by decide)
   .rw[z7 eb,FG]at h;exact absurd (yZ h).1 (by decide)
  .simp only[yJ]at h;obtain⟨c1,t1⟩:=a2 rfl;obtain⟨c2,t2⟩:=b2 rfl;subst c1 t1 c2 t2;exact⟨rfl,by simpa using h⟩
structure Sg where
 a:Seen
 b:Seen
 c:Seen
 d:Seen
 deriving DecidableEq
def ry(s:Sg):Prop:=rq s.a/\rq s.b/\rq s.c/\rq s.d
def U2(s:Sg):LB:=ru s.a++(ru s.b++(ru s.c++ru s.d))
theorem Md{a b:Sg}{r s:LB}(ha:ry a)(hb:ry b)(h:U2 a++r=U2 b++s):a=b/\r=s:=by
 unfold U2 at h;simp only[zR]at h;obtain⟨h1,h⟩:=FF ha.1 hb.1 h;obtain⟨h2,h⟩:=FF ha.2.1 hb.2.1 h;obtain⟨h3,h⟩:=FF ha.2.2.1 hb.2.2.1 h;obtain⟨h4,h5⟩:=FF ha.2.2.2 hb.2.2.2 h;obtain⟨p,q,u,v⟩:=a;obtain⟨p',q',u',v'⟩:=b;simp only at h1 h2 h3 h4;subst h1 h2 h3 h4;exact⟨rfl,h5⟩
theorem ZdS{a b:Sg}(ha:ry a)(hb:ry b)(h:U2 a=U2 b):a=b:=(Md (r:=[]) (s:=[]) ha hb (by rw[h])).1
theorem ZfZ(s:Sg):U2 s≠ []:=by
 unfold U2 ru;simp
def iS:List LB->LB
 | []=>[]
 |a::l=>10::(a++iS l)
def Kt:List LB->LB
 | []=>[]
 |a::l=>a++iS l
def eO(t:LB):Prop:=∃s,ry s/\t=U2 s
theorem eO.ne{t:LB}(h:eO t):t≠ []:=by obtain⟨s,_,rfl⟩:=h;exact ZfZ s
theorem eO.cut{a b r s:LB}(ha:eO a)(hb:eO b)(h:a++r=b++s):a=b/\r=s:=by
 obtain⟨x,hx,rfl⟩:=ha;obtain⟨y,hy,rfl⟩:=hb;obtain⟨h1,h2⟩:=Md hx hy h;exact⟨by rw[h1],h2⟩
theorem Me:∀{l m:List LB},(∀t∈l,eO t)->(∀t∈m,eO t)->iS l=iS m->l=m
 | [],[],_,_,_=>rfl
 | [],b::m,_,_,h=>by simp[iS]at h
 |a::l,[],_,_,h=>by simp[iS]at h
 |a::l,b::m,ha,hb,h=>by
  obtain⟨h1,h2⟩:=(ha a (zJ ..)).cut (hb b (zJ ..)) (yZ h).2;rw[h1,Me (fun t ht=>ha t (zK _ ht)) (fun t ht=>hb t (zK _ ht)) h2]
theorem Zg0:∀{l m:List LB},(∀t∈l,eO t)->(∀t∈m,eO t)->Kt l=Kt m->l=m
 | [],[],_,_,_=>rfl
 | [],b::m,_,hb,h=>by have:=(hb b (zJ ..)).ne;simp[Kt]at h;exact(this h.1).elim
 |a::l,[],ha,_,h=>by have:=(ha a (zJ ..)).ne;simp[Kt]at h;exact(this h.1).elim
 |a::l,b::m,ha,hb,h=>by
  obtain⟨h1,h2⟩:=(ha a (zJ ..)).cut (hb b (zJ ..)) h;rw[h1,Me (fun t ht=>ha t (zK _ ht)) (fun t ht=>hb t (zK _ ht)) h2]
theorem C1{K J:Type}{f:K->J}{p:K->Prop}(hf:∀a b,p a->p b->f a=f b->a=b):∀{l m:List K},(∀x∈l,p x)->(∀x∈m,p x)->(l.map f).Perm (m.map f)->l.Perm m
 | [],m,_,_,h=>by
   have:m=[]:=by have:=h.length_eq;simpa using this.symm
   rw[this]
 |a::l,m,hl,hm,h=>by
  have ha:f a∈m.map f:=h.mem_iff.1 (zJ ..);obtain⟨b,hb,e⟩:=yc.1 ha;have hab:=hf b a (hm b hb) (hl a (zJ ..)) e;subst hab;obtain⟨m1,m2,rfl⟩:=List.append_of_mem hb;have h2:(b::(m1++m2)).Perm (m1++b::m2):=List.perm_middle.symm;have h3:=h.trans (h2.map f).symm;simp only[zG]at h3;have h4:=List.Perm.cons_inv h3;exact((C1 hf (fun x hx=>hl x (zK _ hx)) (fun x hx=>hm x (h2.mem_iff.1 (zK _ hx))) h4).cons b).trans h2
def fD(cl:List Int)(x:Nat)(n:Int)(t:Tm):Seen:=if n<0 then⟨false,0,t⟩else if n=(x:Int)then⟨true,0,ZC⟩else⟨false,1+cl.getD n.toNat 0,ZC⟩
def Ku(cl:List Int)(x:Nat)(s:Sd):Sg:=⟨fD cl x s.a s.q.s,fD cl x s.b s.q.p,fD cl x s.c s.q.o,fD cl x s.d s.q.g⟩
theorem FH{cl:List Int}(hc:∀c∈cl,0<=c)(x:Nat)(n:Int)(t:Tm):rq (fD cl x n t):=by
 unfold fD rq;split
 exact⟨Int.le_refl _,fun h=>(by cases h),fun h=>(by simp at h)⟩
 .split
  exact⟨Int.le_refl _,fun _=>⟨rfl,rfl⟩,fun h=>(by simp at h)⟩
  .have:0<=cl.getD n.toNat 0:=by
    rw[zl];cases h:cl[n.toNat]? with
    |none=>simp
    |some c=>exact hc c (zV h)
   exact⟨(by show 0<=1+_;omega),fun h=>(by cases h),fun _=>rfl⟩
theorem Mf{cl:List Int}(hc:∀c∈cl,0<=c)(x:Nat)(s:Sd):ry (Ku cl x s):=⟨FH hc _ _ _,FH hc _ _ _,FH hc _ _ _,FH hc _ _ _⟩
def Jh(cl:List Int)(I:List (List Sd))(x:Nat):List Sg:=(I.getD x []).map (Ku cl x)
def FI(cl:List Int)(I:List (List Sd))(x:Nat):List LB:=((Jh cl I x).map U2).mergeSort (q9 cmpL)
def kI(cl:List Int)(I:List (List Sd))(x:Nat):LB:=itoa (cl.getD x 0)++10::Kt (FI cl I x)
theorem Mg{cl:List Int}(hc:∀c∈cl,0<=c)(I:List (List Sd))(x:Nat):∀t∈FI cl I x,eO t:=by
 intro t ht;have ht:t∈(Jh cl I x).map U2:=(x6 _ _).mem_iff.1 ht;obtain⟨s,hs,rfl⟩:=yc.1 ht;unfold Jh at hs;obtain⟨d,_,rfl⟩:=yc.1 hs;exact⟨_,Mf hc x d,rfl⟩
theorem Mh{cl:List Int}(hc:∀c∈cl,0<=c)(I:List (List Sd))(x:Nat):∀s∈Jh cl I x,ry s:=by
 intro s hs;unfold Jh at hs;obtain⟨d,_,rfl⟩:=yc.1 hs;exact Mf hc x d
theorem Mi{cl:List Int}(hc:∀c∈cl,0<=c)(I:List (List Sd))(x y:Nat):kI cl I x=kI cl I y<->cl.getD x 0=cl.getD y 0/\(Jh cl I x).Perm (Jh cl I y):=by
 constructor
 .intro h;obtain⟨h1,h2⟩:=FD (d:=10) (by decide) (by decide) h;refine⟨h1,?_⟩;have h3:=Zg0 (Mg hc I x) (Mg hc I y) h2;unfold FI at h3;have h4:((Jh cl I x).map U2).Perm ((Jh cl I y).map U2):=((x6 _ _).symm.trans (by rw[h3])).trans (x6 _ _);exact C1 (p:=ry) (fun a b ha hb=>ZdS ha hb) (Mh hc I x) (Mh hc I y) h4
 .rintro⟨h1,h2⟩;unfold kI FI;rw[h1,M9 qA (Xa qA _) (Xa qA _) (((x6 _ _).trans (h2.map U2)).trans (x6 _ _).symm)]
section
variable {K:Type}[BEq K][LawfulBEq K]
def ZK(l:List K):List K:=l.foldl (fun acc k=>if k∈acc then acc else acc++ [k]) []
theorem Vf(l:List K){i:Nat}(h:i<l.length):ZK (l.take (i+1))=if l[i]∈ZK (l.take i)then ZK (l.take i)else ZK (l.take i)++ [l[i]]:=by
 unfold ZK;rw[zH h,vh];rfl
theorem Mj(l:List K):∀(i j:Nat),i<=j->∃m,ZK (l.take j)=ZK (l.take i)++m
 |i,j,h=>by
  induction j with
  |zero=>have:i=0:=by omega
         subst this;exact⟨[],by simp⟩
  |succ j ih=>
   by_cases e:i=j+1
   subst e;exact⟨[],by simp⟩
   .obtain⟨m,hm⟩:=ih (by omega);by_cases hl:j<l.length
    .rw[Vf l hl];split
     exact⟨m,hm⟩;exact⟨m++ [l[j]],by rw[hm,zR]⟩
    .rw[zg (by omega)];rw[zg (by omega)]at hm;exact⟨m,hm⟩
theorem C2(l:List K)(i:Nat):(ZK (l.take i)).length<=i:=by
 induction i with
 |zero=>simp[ZK]
 |succ i ih=>
  by_cases hl:i<l.length
  .rw[Vf l hl];split
   omega;simp;omega
  .rw[zg (by omega)]at ih⊢;omega
theorem Mk(l:List K){i:Nat}(h:i<l.length):l[i]∈ZK (l.take (i+1)):=by
 rw[Vf l h];split
 assumption
 simp
theorem Z7W(l:List K)(i:Nat):(ZK (l.take i)).Nodup:=by
 induction i with
 |zero=>simp[ZK]
 |succ i ih=>
  by_cases hl:i<l.length
  .rw[Vf l hl];split
   exact ih
   .rename_i hn;exact List.nodup_append.2 ⟨ih,by simp,fun a ha b hb=>by rw[zI.1 hb];exact fun e=>hn (e▸ha)⟩
  .rw[zg (by omega)]at ih⊢;exact ih
def WE(l:List K):List Int:=l.map fun k=>((ZK l).idxOf k:Int)
theorem Jm(l:List K):(WE l).length=l.length:=by simp[WE]
theorem Zia{a m:List K}{k:K}(h:k∈a):(a++m).idxOf k=a.idxOf k:=by rw[List.idxOf_append,zf h]
theorem Zg1(l:List K){i:Nat}(h:i<l.length):(WE l)[i]?=some (((ZK (l.take (i+1))).idxOf l[i]:Nat):Int):=by
 unfold WE;rw[z6,z1 h];obtain⟨m,hm⟩:=Mj l (i+1) l.length (by omega);rw[y8]at hm;simp only[Option.map_some];rw[hm,Zia (Mk l h)]
theorem Ml(l:List K):∀c∈WE l,0<=c/\c< ((ZK l).length:Int):=by
 intro c hc;obtain⟨i,hi,rfl⟩:=yM.1 hc;rw[Jm]at hi;have h1:=Zg1 l hi;rw[z1 (by rw[Jm];exact hi)]at h1;have h2:=y7 (Mk l hi);obtain⟨m,hm⟩:=Mj l (i+1) l.length (by omega);rw[y8]at hm;rw[hm,zh];injection h1 with h1;rw[h1];omega
end
structure Pre{K:Type}(c:K->K->Int):Prop where
 anti:∀a b,c a b<0<->0<c b a
 trans:∀a b d,c a b<=0->c b d<=0->c a d<=0
section
variable {K:Type}{c:K->K->Int}
theorem Pre.refl(h:Pre c)(a:K):c a a=0:=by have:=h.anti a a;omega
theorem Pre.flip(h:Pre c){a b:K}(e:c a b=0):c b a=0:=by have:=h.anti a b;have:=h.anti b a;omega
theorem Pre.aG(h:Pre c){a b d:K}(h1:c a b<0)(h2:c b d<=0):c a d<0:=by
 have h3:=h.trans a b d (by omega) h2;rcases vH h3 with h4|h4
 exact h4
 .have h5:=h.flip h4;have h6:=h.trans b d a h2 (by omega);have:=h.anti a b;omega
theorem Pre.rj(h:Pre c){a b d:K}(h1:c a b<=0)(h2:c b d<0):c a d<0:=by
 have h3:=h.trans a b d h1 (by omega);rcases vH h3 with h4|h4
 exact h4
 .have h5:=h.flip h4;have h6:=h.trans d a b (by omega) h1;have:=h.anti b d;omega
def uZ(c:K->K->Int)(l:List K)(x:K):Nat:=l.countP fun y=>decide (c y x<0)
theorem ZdW{l m:List K}(h:l.Perm m)(x:K):uZ c l x=uZ c m x:=h.countP_eq _
theorem dh{p:K->Bool}:∀{o:List K} {r:Nat},r<=o.length->(∀j (h:j<o.length),p o[j]=true<->j<r)->o.countP p=r
 | [],r,hr,_=>by simp at hr;simp[hr]
 |a::o,0,_,h=>by
  rw[List.countP_eq_zero];intro x hx;obtain⟨j,hj,rfl⟩:=yM.1 hx;have:=h j hj;simp only[Nat.not_lt_zero,iff_false]at this;exact this
 |a::o,r+1,hr,h=>by
  have h0:=(h 0 (by simp)).2 (by omega);simp only[List.getElem_cons_zero]at h0;rw[List.countP_cons_of_pos h0];congr 1
  exact dh (by simpa using hr) fun j hj=>by
   have:=h (j+1) (by simpa using hj);simpa using this
def tf[Inhabited K](c:K->K->Int)(o:List K):Nat->Nat
 |0=>0
 |i+1=>if c (o.getD i default) (o.getD (i+1) default)=0 then tf c o i else i+1
theorem Mm[Inhabited K](o:List K):∀i,tf c o i<=i
 |0=>zo _
 |i+1=>by unfold tf;split
          exact Nat.le_succ_of_le (Mm o i);exact zo _
theorem Mn[Inhabited K](h:Pre c){o:List K}(hs:o.Pairwise fun a b=>c a b<=0):∀i (hi:i<o.length) j (hj:j<o.length),c o[j] o[i]<0<->j<tf c o i
 |0,hi,j,hj=>by
  have:¬c o[j] o[0]<0:=fun h1=>by
   have h2:c o[0] o[j]<=0:=by
    rcases xx j with e|e
    subst e;have:=h.refl o[0];omega;exact(xk.1 hs) 0 j hi hj e
   have:=h.anti o[j] o[0];omega
  simp[tf,this]
 |i+1,hi,j,hj=>by
  have hi':i<o.length:=by omega
  have ih:=Mn h hs i hi' j hj;have hd:o.getD i default=o[i]:=by rw[zl,z1 hi'];rfl
  have hd':o.getD (i+1) default=o[i+1]:=by rw[zl,z1 hi];rfl
  unfold tf;rw[hd,hd'];by_cases e:c o[i] o[i+1]=0
  .rw[zf e,<-ih];constructor
   intro h1;have:=h.flip e;exact h.aG h1 (by omega);intro h1;exact h.aG h1 (by omega)
  .rw[z7 e];have hle:c o[i] o[i+1]<=0:=(xk.1 hs) i (i+1) hi' hi (by omega);constructor
   .intro h1;refine Decidable.byContradiction fun hn=>?_
    have h2:c o[i+1] o[j]<=0:=by
     rcases Nat.eq_or_lt_of_le (Nat.le_of_not_lt hn)with e2|e2
     subst e2;have:=h.refl o[i+1];omega;exact(xk.1 hs) (i+1) j hi hj e2
    have:=h.anti o[j] o[i+1];omega
   .intro h1
    have h2:c o[j] o[i]<=0:=by
     rcases Nat.eq_or_lt_of_le (Nat.le_of_lt_succ h1)with e2|e2
     subst e2;have:=h.refl o[j];omega;exact(xk.1 hs) j i hj hi' e2
    exact h.rj h2 (by omega)
theorem C3[Inhabited K](h:Pre c){o:List K}(hs:o.Pairwise fun a b=>c a b<=0){i:Nat}(hi:i<o.length):uZ c o o[i]=tf c o i:=
 dh (zO (Mm o i) (by omega)) fun j hj=>by simpa using Mn h hs i hi j hj
end
def Y6:List Qd->List Qd->Int
 | [],[]=>0
 | [],_::_=> -1
 |_::_,[]=>1
 |a::l,b::m=>if ZP a b=0 then Y6 l m else ZP a b
theorem cM:qJ Y6 where
 oC:=by
  intro a
  induction a with
  |nil=>intro b;cases b<;>simp[Y6]
  |cons x a ih=>
   intro b;cases b with
   |nil=>simp[Y6]
   |cons y b=>
    unfold Y6;split
    exact ih b;exact kH.oC x y
 anti:=by
  intro a
  induction a with
  |nil=>intro b;cases b<;>simp[Y6]
  |cons x a ih=>
   intro b;cases b with
   |nil=>simp[Y6]
   |cons y b=>
    unfold Y6;have:=kH.anti x y;by_cases e:ZP x y=0
    rw[zf e,zf (by omega),ih b];rw[z7 e,z7 (by omega),this]
 zero:=by
  intro a
  induction a with
  |nil=>intro b;cases b<;>simp[Y6]
  |cons x a ih=>
   intro b;cases b with
   |nil=>simp[Y6]
   |cons y b=>
    unfold Y6;by_cases e:ZP x y=0
    .rw[zf e,ih b,yA];have:=(kH.zero x y).1 e;simp[this]
    .rw[z7 e,yA];constructor
     exact fun h=>(e h).elim;exact fun h=>(e ((kH.zero x y).2 h.1)).elim
 trans:=by
  intro a
  induction a with
  |nil=>intro b d _ h2;cases b<;>cases d<;>simp_all[Y6]
  |cons x a ih=>
   intro b d h1 h2;cases b with
   |nil=>simp[Y6]at h1
   |cons y b=>
    cases d with
    |nil=>simp[Y6]at h2
    |cons z d=>
     unfold Y6 at h1 h2⊢;by_cases e1:ZP x y=0
     .rw[zf e1]at h1;have:=(kH.zero x y).1 e1;subst this;by_cases e2:ZP x z=0
      .rw[zf e2]at h2⊢;exact ih b d h1 h2
      .rw[z7 e2]at h2⊢;exact h2
     .rw[z7 e1]at h1;by_cases e2:ZP y z=0
      .have:=(kH.zero y z).1 e2;subst this;rw[z7 e1];exact h1
      .rw[z7 e2]at h2;have h3:ZP x z<0:=kH.lt_trans (by omega) h2;rw[z7 (by omega)];omega
def o8(n:Nat):LB:=List.replicate (4-(decDigits n).length) 48++decDigits n
def Xo(A:List LB)(cl:List Int)(x:Nat)(t:Tm):Tm:=if t.k=2 then{t with t:=if A.idxOf t.t=x then [120]else o8 (cl.getD (A.idxOf t.t) 0).toNat}else t
def mO(A:List LB)(cl:List Int)(x:Nat)(q:Qd):Qd:=⟨Xo A cl x q.s,Xo A cl x q.p,Xo A cl x q.o,Xo A cl x q.g⟩
def cc(A:List LB)(l:List Qd)(x:Nat):List Nat:=(List.range l.length).filter fun k=>decide (A.getD x []∈Zw (l.getD k ⟨ZC,ZC,ZC,ZC⟩))
def rz(A:List LB)(l:List Qd)(cl:List Int)(x:Nat):List Qd:=(cc A l x).map fun k=>mO A cl x (l.getD k ⟨ZC,ZC,ZC,ZC⟩)
def Yo(A:List LB)(l:List Qd)(cl:List Int)(x:Nat):List Qd:=(rz A l cl x).mergeSort (q9 ZP)
def UH(A:List LB)(l:List Qd)(cl:List Int)(a b:Nat):Int:=if uY (cl.getD a 0) (cl.getD b 0)=0 then Y6 (Yo A l cl a) (Yo A l cl b)else uY (cl.getD a 0) (cl.getD b 0)
theorem ZdX(A:List LB)(l:List Qd)(cl:List Int)(a b:Nat):UH A l cl b a= -UH A l cl a b:=by
 unfold UH;have h:=fW.anti (cl.getD a 0) (cl.getD b 0);by_cases e:uY (cl.getD a 0) (cl.getD b 0)=0
 rw[zf e,zf (by omega),cM.anti (Yo A l cl a)];rw[z7 e,z7 (by omega),h]
theorem Vz(A:List LB)(l:List Qd)(cl:List Int):Pre (UH A l cl) where
 anti a b:=by have:=ZdX A l cl a b;omega
 trans a b d h1 h2:=by
  unfold UH at*;by_cases e1:uY (cl.getD a 0) (cl.getD b 0)=0
  .rw[zf e1]at h1;have ee:=(fW.zero _ _).1 e1;by_cases e2:uY (cl.getD b 0) (cl.getD d 0)=0
   .rw[zf e2]at h2;rw[ee,zf e2];exact cM.trans _ _ _ h1 h2
   .rw[z7 e2]at h2;rw[ee,z7 e2];exact h2
  .rw[z7 e1]at h1;by_cases e2:uY (cl.getD b 0) (cl.getD d 0)=0
   .have ee:=(fW.zero _ _).1 e2;rw[<-ee,z7 e1];exact h1
   .rw[z7 e2]at h2;have h3:=fW.lt_trans (x:=cl.getD a 0) (y:=cl.getD b 0) (z:=cl.getD d 0) (by omega) h2;rw[z7 (by omega)];omega
def Yt(A:List LB)(l:List Qd)(cl:List Int):List Int:=(List.range cl.length).map fun x=>(uZ (UH A l cl) (List.range cl.length) x:Int)
theorem YZ(A:List LB)(l:List Qd)(cl:List Int):(Yt A l cl).length=cl.length:=by simp[Yt]
theorem Zib{K:Type}{c:K->K->Int}(h:Pre c){l:List K}{x:K}(hx:x∈l):uZ c l x<l.length:=by
 unfold uZ;refine Nat.lt_of_le_of_ne List.countP_le_length fun e=>?_;have:=(List.countP_eq_length.1 e) x hx;have h2:=h.refl x;simp at this;omega
theorem Mp(A:List LB)(l:List Qd)(cl:List Int):∀c∈Yt A l cl,0<=c/\c< (cl.length:Int):=by
 intro c hc;unfold Yt at hc;obtain⟨x,hx,rfl⟩:=yc.1 hc;have:=Zib (Vz A l cl) hx;rw[yE]at this;omega
def wO(cl:List Int):Nat:=(ZK cl).length
inductive Refs(A:List LB)(l:List Qd):List Int->List Int->Prop
 |stop {cl:List Int} (h:wO (Yt A l cl)=wO cl):Refs A l cl (Yt A l cl)
 |go {cl F:List Int} (h:wO (Yt A l cl)≠wO cl) (k:Refs A l (Yt A l cl) F):Refs A l cl F
theorem Refs.Mq{A:List LB}{l:List Qd}{cl F F':List Int}(h:Refs A l cl F)(h':Refs A l cl F'):F'=F:=by
 induction h with
 |stop hn=>cases h' with
  |stop _=>rfl
  |go hy _=>exact(hy hn).elim
 |go hy _ ih=>cases h' with
  |stop hn=>exact(hy hn).elim
  |go _ k=>exact ih k
theorem Refs.ok{A:List LB}{l:List Qd}{cl F:List Int}(h:Refs A l cl F):F.length=cl.length/\∀c∈F,0<=c/\c< (cl.length:Int):=by
 induction h with
 |stop hn=>exact⟨YZ _ _ _,Mp _ _ _⟩
 |go hy _ ih=>rw[YZ]at ih;exact ih
def eP(n:Nat):LB:=if n=0 then []else decDigits n
def fE(least n:Nat)(s:LB):LB:=List.replicate (least-(eP n).length-s.length) 48++(eP n++s)
theorem ZdY{n:Nat}(h:0<n):eP n=eP (n/10)++ [UInt8.ofNat (48+n%10)]:=by
 unfold eP;rw[z7 (by omega)];conv=>lhs;rw[decDigits]
 by_cases h9:n<10
 rw[zf (show n/10=0 by omega),yp h9,vt h9];rfl;rw[z7 (show ¬n/10=0 by omega),yQ h9]
theorem Zg2{least n:Nat}{s:LB}(h:0<n\/s.length<least):fE least (n/10) (UInt8.ofNat (48+n%10)::s)=fE least n s:=by
 unfold fE;by_cases hn:0<n
 .rw[ZdY hn];rw[zh,List.length_cons,List.length_singleton,zR,List.singleton_append];congr 2;omega
 .have hn0:n=0:=by omega
  subst hn0;have h1:s.length<least:=by omega
  simp only[eP,Nat.zero_div,yJ,List.length_nil,List.nil_append,List.length_cons,Nat.sub_zero,Nat.zero_mod,Nat.add_zero];rw[show least-s.length=(least-(s.length+1))+1 by omega,List.replicate_succ'];simp
theorem Zic{least:Nat}{s:LB}(h:least<=s.length):fE least 0 s=s:=by
 unfold fE;rw[show least-(eP 0).length-s.length=0 by simp[eP];omega];rfl
theorem Zid(n:Nat):0< (decDigits n).length:=List.length_pos_iff.2 (Z7Q n)
theorem Zg3(n:Nat):fE 4 n []=o8 n:=by
 unfold fE o8 eP;by_cases h:n=0
 .subst h;rw[zf rfl,decDigits,yp (by omega)];rfl
 rw[z7 h];simp
theorem Zie(n:Nat):fE 1 n []=decDigits n:=by
 unfold fE eP;by_cases h:n=0
 .subst h;rw[zf rfl,decDigits,yp (by omega)];rfl
 .rw[z7 h];have:=Zid n;rw[show 1-(decDigits n).length-([]:LB).length=0 by simp;omega];simp
end Go.Our
namespace Go.Sx
open Go Go.Sort Go.Shelf Go.Proofs
theorem vR.later{M:Mx}{K:Env}{w w':World}{O:vX}{nx:Nat}(H:vR M K w O nx)(hf:qW w w' fun _=>False):vR M K w' O nx:=by
 have hk:∀{i h},u5 i O=some h->∀k,vY K w (.loc i) h k->w'.heap[k]?=w.heap[k]?:=fun hi k f=>hf.block k ((H.own.1 _ _ hi).1.uy f) (fun h=>h);have hb:∀{i h},u5 i O=some h->∀k,vY K w' (.loc i) h k->vY K w (.loc i) h k:=fun hi k f=>H.stands zu hi (hk hi) f;exact⟨H.pre,H.len,⟨fun i h hi=>⟨(H.own.1 i h hi).1.keep (hk hi),fun k f=>(H.own.1 i h hi).2 k (hb hi k f)⟩,fun i j h h' k hi hj hij f f'=>H.own.2 i j h h' k hi hj hij (hb hi k f) (hb hj k f')⟩,H.fr.trans hf (fun n h=>h.elim),H.wm⟩
theorem qW.grown{w w':World}(h:qW w w' fun _=>False):∃q os,w'=grow (w.drewN q) os:=by
 refine⟨w'.drawn-w.drawn,w'.heap.extract w.heap.size,?_⟩;have hd:=h.drawn
 have e1:w'.heap=w.heap++w'.heap.extract w.heap.size:=by
  apply xN;intro k;rcases zY k w.heap.size with hk|hk
  rw[y9 hk];exact h.block k hk (fun x=>x)
  .rw[Array.getElem?_append_right hk,Array.getElem?_extract];simp only[Nat.min_self];split
   rw[show w.heap.size+(k-w.heap.size)=k by omega]
   .rename_i hn;exact xM (by omega)
 obtain⟨heap,tape,drawn,os,output⟩:=w;obtain⟨heap',tape',drawn',os',output'⟩:=w';have h1:=h.os;have h2:=h.tape;have h3:=h.output;simp only at h1 h2 h3 hd e1;subst h1 h2 h3;simp only[grow,World.drewN];rw[<-e1];congr 1;omega
section
variable {J:Type}[Inhabited J](enc:J->List Value)(k:Nat)
theorem Vg(w:World)(blk off m:Nat)(dk:Array J)(os:Array Obj):(sortWorldK enc k w blk off m dk os).heap=(mapBlock w blk (putCells id off (flatK enc k dk))).heap++os:=by
 simp[sortWorldK,grow,putRowK,putRow,mapBlock,Sort.ahead]
theorem W1(w:World)(blk off m:Nat)(dk:Array J)(os:Array Obj):w.heap.size<=(sortWorldK enc k w blk off m dk os).heap.size:=by
 rw[Vg];simp[mapBlock]
theorem UC(w:World)(blk off m:Nat)(dk:Array J)(os:Array Obj){g:Nat}(hg:g<w.heap.size)(hne:g≠blk):(sortWorldK enc k w blk off m dk os).heap[g]?=w.heap[g]?:=by
 rw[Vg,y9 (by simpa[mapBlock]using hg)];simp only[mapBlock,yh];rw[z7 (fun h=>hne h.symm)]
theorem Z4K(w:World)(blk off m:Nat)(dk:Array J)(os:Array Obj){c:Array Value}{T:TypeId}{fz:Nat×Nat}(h:w.heap[blk]?=some (.cells c T fz)):(sortWorldK enc k w blk off m dk os).heap[blk]?=some (.cells (putCells id off (flatK enc k dk) c) T fz):=by
 have hlt:=(zA.1 h).1;rw[Vg,y9 (by simpa[mapBlock]using hlt)];simp only[mapBlock,yh,yJ,h,Option.map_eq_map,Option.map_some,onCells]
end
theorem FK{w:World}{g i:Nat}{c:Array Value}{T:TypeId}{fz:Nat×Nat}(h:w.heap[g]?=some (.cells c T fz)):w.cell? ⟨g,i,none⟩=c[i]?:=by simp[World.cell?,h]
theorem ZbV{P:Program}{T:wU}{J:Type}[Inhabited J]{enc:J->List Value}{k:Nat}{row:J->List SV}{g:FuncId}{cf:J->J->Int}{blk off size:Nat}{w:World}(pZ:T.qt.all (fun p=>rY p.2)=true)(hblk:∀h,u5 blk T.qt≠some h)
 (hc:∀x y,vS P T g 0 [.agg (row x), .agg (row y)] [] [] (uN (.int .i64 (cf x y)))) (eg:∀args w,(callFunc g args).run P w= .ok (.enter g args) w)
 (hrow:∀K x,vV K (row x) (enc x)/\∀u∈enc x,u.oneCell'=true) (hg:∀g h,u5 g T.qt=some h->vT [] w false (.uH g) h/\g<w.heap.size):CmpLays P g #[] enc k cf blk off size w:=by
 intro m os dk hdk x y
 have hg':∀g h,u5 g T.qt=some h->vT [] (sortWorldK enc k w blk off m dk os) false (.uH g) h/\g< (sortWorldK enc k w blk off m dk os).heap.size:=by
  intro g' h hh;obtain⟨h1,h2⟩:=hg g' h hh;have hne:g'≠blk:=fun e=>hblk h (e▸hh);refine⟨h1.keep fun n f=>?_,yH h2 (W1 enc k w blk off m dk os)⟩;have hlt:=h1.uy f;obtain⟨e,he,hf⟩:=f;cases he
  rcases hf with rfl|hf
  exact UC enc k w blk off m dk os hlt hne;exact(GV (zT.1 pZ _ (UR hh)) hf).elim
 have:=vS.calls (hc x y) eg (vs:=[.agg (enc x).toArray, .agg (enc y).toArray]) (w:=sortWorldK enc k w blk off m dk os) (by
  simp only[vV,Den]
  exact⟨_,_,rfl,⟨_,rfl,(hrow [] x).1,(hrow [] x).2⟩,_,_,rfl,⟨_,rfl,(hrow [] y).1,(hrow [] y).2⟩,rfl⟩) hg'
 refine this.mono ?_;rintro e w' ⟨v,rfl,hv,hf⟩;simp only[Den]at hv;subst hv;exact⟨rfl,hf.grown⟩
theorem Mw{J:Type}[Inhabited J]{enc:J->List Value}{k:Nat}(hk:∀x,(enc x).length=k){l:List J}{i j:Nat}{x:J}(hi:l[i]?=some x)(hj:j<k):(flatK enc k l.toArray)[i*k+j]! =(enc x)[j]!/\i*k+j<l.length*k:=by
 have hil:=(ze.1 hi).1
 have hlt:i*k+j<l.length*k:=by
  have:(i+1)*k<=l.length*k:=ym k hil;rw[yC]at this;omega
 refine⟨?_,hlt⟩;rw[get_flatK _ _ _ _ (by simpa using hlt)];have h1:(i*k+j)/k=i:=by rw[vi,Nat.mul_add_div (by omega),Nat.div_eq_of_lt hj,Nat.add_zero]
 have h2:(i*k+j)%k=j:=by rw[vi,Nat.mul_add_mod];exact vt hj
 rw[h1,h2];congr 1;have:=(ze.1 hi).2;simp[hil,this]
theorem Z6k{P:Program}{T:wU}{ρ:Ren}{J:Type}[Inhabited J](hT:uC P T)(L:SlLaysF0.n6 P ρ)(L':SlLaysF0.n6 P ρ){enc:J->List Value}{k:Nat}{row:J->List SV}{g:FuncId}{cf:J->J->Int}
 (aE:∀w,(isAgg (ρ.t 24)).run P w= .ok true w) (zE:∀w,(Go.sizeOf (ρ.t 24)).run P w= .ok k w) (hk:∀x,(enc x).length=k/\(row x).length=k) (C7:0<k) (hO:SWO (ltOf cf)) (hTo:∀x y,(ltOf cf) x y=false->(ltOf cf) y x=false->x=y)
 (pZ:T.qt.all (fun p=>rY p.2)=true) (hc:∀x y,vS P T g 0 [.agg (row x), .agg (row y)] [] [] (uN (.int .i64 (cf x y)))) (eg:∀args w,(callFunc g args).run P w= .ok (.enter g args) w) (ef:∀args w,(callFunc (ρ.f 6) args).run P w= .ok (.enter (ρ.f 6) args) w)
 (hrow:∀K x,vV K (row x) (enc x)/\∀u∈enc x,u.oneCell'=true) (Kv:∀K x vs,vV K (row x) vs->vs=enc x) (l:List J) (hl:l.length<4611686018427387904):
 vS P T (ρ.f 6) 1 [.sl (.loc 0) 0 k l.length none, .fn (.func g) [] []] [(0, .rows k (l.map row))] [] (fun r O nx=>r= .uz []/\O=[(0, .rows k ((l.mergeSort fun x y=>!(ltOf cf) y x).map row))]/\nx=1):=by
 refine⟨fun M vs hP cD hF hS H hd=> .inl ⟨ρ.f 6,by rw[hP];exact ef _ _,?_⟩⟩;obtain⟨P',⟨T',N',S',pK⟩,w0,F,η0,nT⟩:=M;simp only at hP cD hF hS H hd⊢;subst hP cD;simp only[vV]at hd;obtain⟨v,us,rfl,hv,f,us',rfl,hf,rfl⟩:=hd;simp only[Den]at hf;obtain⟨ff,fc,rfl,Kw,s5⟩:=hf;simp only[vV]at Kw s5;subst Kw s5;have u9:=(H.own.1 0 _ rfl).1
 have C8:∀g h,u5 g T'.qt=some h->vT [] w0 false (.uH g) h/\g<w0.heap.size:=by
  intro g' h hh;have hp:V2 h=true:=zT.1 T'.dA _ (UR hh);have h1:=H.shared (b:= .uH g') hh;refine⟨h1.plain hp,h1.uy ⟨⟨g',0,0⟩,rfl, .inl rfl⟩⟩
 simp only[vT,Env.get]at u9;simp only[Den,Env.get]at hv
 have fin:∀w' (O':vX),qW w0 w' F->vT η0 w' true (.loc 0) (.rows k ((l.mergeSort fun x y=>!(ltOf cf) y x).map row))->
  ∃r O' vW η',(r=SV.uz []/\O'=[(0,Hp.rows k ((l.mergeSort fun x y=>!(ltOf cf) y x).map row))]/\vW=1)/\η0<+:η'/\vR ⟨P',⟨T',N',S',pK⟩,w0,F,η0,nT⟩ η' w' O' vW/\Den η' r (.tuple #[]):=by
  intro w' O' hfr hs;refine⟨_,_,_,η0,⟨rfl,rfl,rfl⟩,zu,⟨H.pre,H.len,⟨fun i h hi=>?_,fun i j h h' k hi hj hij f f'=>?_⟩,hfr,H.wm⟩,?_⟩
  .rw[Z8]at hi;split at hi
   .rename_i e;subst e;injection hi with hi;subst hi;refine⟨hs,fun n f=>(H.own.1 0 _ rfl).2 n ?_⟩;obtain⟨e,h1,h2⟩:=f;exact⟨e,h1,h2⟩
   simp[u5]at hi
  .rw[Z8]at hi hj;split at hi
   .rename_i e;subst e;split at hj
    rename_i e2;exact(hij e2.symm).elim;simp[u5]at hj
   simp[u5]at hi
  simp only[Den,vV];exact⟨[],rfl,rfl⟩
 rcases u9 with⟨hn,hnil⟩|⟨e,arr,Tt,fz,he,hheap,hown,hcells⟩
 ·
  have hl0:l=[]:=by simpa using hnil
  subst hl0
  have Kx:v= .slice none 0 0:=by
   rcases hv with⟨_,h,_⟩|⟨e,o,h,_⟩
   exact h;rw[hn]at h;cases h
  subst Kx;refine(AnyF.slices_SortFunc_none L' none 0 _ w0).mono ?_;rintro e w' ⟨rfl,rfl⟩;refine⟨_,rfl,fin _ [] (qW.refl _ _) ?_⟩;simp only[vT,Env.get];exact .inl ⟨hn,by simp⟩
 .obtain⟨hun,hsz,hle,hb0⟩:=hown trivial
  obtain⟨hel,th⟩:l.length<=e.cap/\v= .slice (some ⟨e.g,0,none⟩) l.length e.cap:=by
   rcases hv with⟨h,_⟩|⟨e',o,h,h2,h3,h4,h5⟩
   rw[he]at h;cases h
   .rw[he]at h;cases h;simp only[Option.getD_none,zx,Nat.sub_zero]at h2 h3;have:=h5 (.inr trivial);rw[hb0]at this;simp only[yO,Nat.add_zero]at this;subst this;exact⟨h3,h2⟩
  subst th;have hblk:e.g<w0.heap.size:=(zA.1 hheap).1
  have hcell:∀(i:Nat) (x:J) (j:Nat),l[i]?=some x->j<k->arr[i*k+j]?=some (enc x)[j]!:=by
   intro i x j hi hj;obtain⟨h1,h2⟩:=hcells i (row x) (by rw[z6,hi];rfl);have hlen:=(hk x).2;have mu:=(hk x).1
   have hall:∀(j:Nat) (c:SV),(row x)[j]?=some c->∃u,((List.range k).map fun j=>arr.getD (i*k+j) undef)[j]?=some u/\Den η0 c u:=by
    intro j c hj;have hjk:j<k:=by have:=(ze.1 hj).1;omega
    obtain⟨u,h3,h4,h5⟩:=h2 j c hj;rw[hb0,zx]at h3;refine⟨u,?_,h5⟩;rw[z6,yG hjk];simp only[Option.map_some,zZ,h3,Option.getD_some]
   have hvs:=Kv η0 x _ (En (by simp[hlen]) hall);have GY:j< (row x).length:=by omega
   obtain⟨u,h3,h4,h5⟩:=h2 j ((row x)[j]) (z1 GY);rw[hb0,zx]at h3
   have h6:(enc x)[j]! =u:=by
    rw[<-hvs]
    have:((List.range k).map fun j=>arr.getD (i*k+j) undef)[j]?=some u:=by
     rw[z6,yG hj];simp only[Option.map_some,zZ,h3,Option.getD_some]
    rw[List.getElem!_eq_getElem?_getD,this];rfl
   rw[h3,h6]
  have split:∀t,t<l.length*k->∃x,l[t/k]?=some x/\t%k<k/\t/k*k+t%k=t:=by
   intro t ht;have h1:t/k<l.length:=Nat.div_lt_of_lt_mul (by rw[vi];exact ht);exact⟨l[t/k],z1 h1,Nat.mod_lt _ C7,by rw[vi];exact Nat.div_add_mod t k⟩
  have hsize:l.length*k<=arr.size:=by rw[hsz];exact ym _ hel
  have hH:HoldsK enc k w0 e.g 0 l.toArray:=by
   intro t ht;rw[size_flatK,ye]at ht;obtain⟨x,h1,h2,h3⟩:=split t ht;have h4:=hcell _ x _ h1 h2;have h5:=(Mw (enc:=enc) (fun x=>(hk x).1) h1 h2).1;rw[h3]at h4 h5;refine⟨by rw[zx,FK hheap,h4,h5];rfl,?_⟩;have:=hun t (by omega);simp only[World.frozen?,hheap,zx];simpa using this
  have hFg:F e.g:=by
   rcases(H.own.1 0 _ rfl).2 e.g ⟨e,he, .inl rfl⟩with h|h
   exact h
   .have h:w0.heap.size<=e.g:=h;omega
  have kg:CmpLays P' g #[] enc k cf e.g 0 l.toArray.size w0:=ZbV pZ (fun h hh=>(H.wm (.uH e.g) h hh).2 e.g ⟨⟨e.g,0,0⟩,rfl, .inl rfl⟩|>.2 hFg) hc eg (fun K x=>hrow K x) C8;have hmain:=AnyQ.slices_SortFunc_total L k aE zE enc (fun x=>(hk x).1) (fun x u hu=>(hrow [] x).2 u hu) cf hO g #[] e.g 0 e.cap l.toArray w0 eg kg hH hblk (by simpa using hl) hTo;rw[ye]at hmain;refine hmain.mono ?_;rintro e1 w' ⟨rfl,n,os,rfl⟩;refine⟨_,rfl,fin _ [] ?_ ?_⟩
  .refine⟨rfl,rfl,rfl,?_,W1 ..,fun b hb Ky=>UC enc k w0 e.g 0 n _ os hb (fun e=>Ky (e▸hFg))⟩;simp[sortWorldK,grow,putRowK,putRow,mapBlock,Sort.ahead]
  .simp only[vT,Env.get];have kL:(l.mergeSort fun x y=>!(ltOf cf) y x).length=l.length:=yt l;refine .inr ⟨e,_,Tt,fz,he,Z4K enc k w0 e.g 0 n _ os hheap,fun _=>⟨?_,?_,?_,hb0⟩,fun i j9 hi=>?_⟩;simp only[putCells,xu];exact hun;simp only[putCells,xu];exact hsz;rw[zy,kL];exact hel
   .rw[z6]at hi;obtain⟨x,hx,rfl⟩:=zC.1 hi;refine⟨(hk x).2,fun j sv hj=>?_⟩;have hjk:j<k:=by have:=(ze.1 hj).1;have:=(hk x).2;omega
    obtain⟨h5,h6⟩:=Mw (enc:=enc) (fun x=>(hk x).1) hx hjk;rw[kL]at h6;obtain⟨u,h7,h8⟩:=Xu (hrow η0 x).1 hj;refine⟨u,?_,(hrow η0 x).2 u (zV h7),h8⟩;have hlt:i*k+j<arr.size:=by omega
    rw[hb0,zx];simp only[putCells,vm,yL hlt,Option.map_some,ve,xI,zx,size_flatK,ye,kL,h6,yJ,Nat.sub_zero];rw[h5,List.getElem!_eq_getElem?_getD,h7]
    rfl
end Go.Sx
namespace Go.Sx
open Go
def Mx.at(M:Mx)(N:Nat)(ro:Option (Nat×Nat))(J:Env):Mx:=⟨M.P,⟨M.C.T,N,M.C.S,ro⟩,M.w0,M.F,J,none⟩
def tj(M:Mx)(res:List ResultVar)(K:SV->vX->Nat->Prop):Post
 | .normal,fr,O,nx=>nS fr O fun O=>ox M.C fr O res fun vs=>K (nR vs) O nx
 | .ret,fr,O,nx=>nS fr O fun O=>ox M.C fr O res fun vs=>K (nR vs) O nx
 | .exit _,_,_,_=>uF "exit"
def Kz:List Nat->List SV->Fr->(Fr->Prop)->Prop
 | [],n5,fr,K=>match n5 with
   | []=>match sI (u5 DS fr)with
     |true=>uF "round"
     |false=>K fr
   |_::_=>uF "round"
 |p::ps,n5,fr,K=>match n5 with
  |a::n5=>Kz ps n5 ((p,a)::fr) K
  | []=>uF "round"
def C9(j:Nat)(K:SV->vX->Nat->Prop):Post:=fun e fr O nx=>match u5 j O with
 |some h=>match h with
  | .lp st li kF=>match st with
    | .busy=>match e with
      | .normal=>nO j (.lp .ready li kF) O fun O=>K (.bool true) O nx
      | .ret=>nO j (.lp (.left none) li kF) O fun O=>K (.bool false) O nx
      | .exit id=>nO j (.lp (.left (some id)) li kF) O fun O=>K (.bool false) O nx
    |_=>uF "record"
  |_=>uF "record"
 |none=>uF "record"
def My(M:Mx)(j:Nat)(body:Code)(K:SV->vX->Nat->Prop):Post:=fun e fr O nx=>match e with
 | .normal=>match u5 j O with
   |some h=>match h with
    | .lp st li kF=>match st with
      | .ready=>nO j (.lp .busy li kF) O fun O=>run M body fr O nx (C9 j K)
      |_=>uF "record"
    |_=>uF "record"
   |none=>uF "record"
 |_=>uF "assignment"
def n9:Fr->(Fr->Prop)->Prop
 | [],K=>K []
 |(t,v)::r,K=>match Nat.beq t DS with
  |true=>n9 r K
  |false=>n9 r fun r=>K ((t,v)::r)
def FL(fr:Fr)(d:Nat)(K:Fr->Prop):Prop:=match u5 DS fr with
 |some v=>match v with
  | .jJ l=>K ((DS, .jJ (.ptr (.loc d) 0 0 0::l))::fr)
  |_=>K ((DS, .jJ [.ptr (.loc d) 0 0 0])::fr)
 |none=>K ((DS, .jJ [.ptr (.loc d) 0 0 0])::fr)
def Ca(j:Nat)(tn:(Fr->Prop)->Prop)(Q:Post):SV->vX->Nat->Prop:=fun _ O nx=>match u5 j O with
 |some h=>match h with
  | .lp st _ _=>match st with
    | .ready=>oP j O fun O=>tn fun fr=>Q .normal fr O nx
    | .busy=>uF "record"
    | .left jump=>match jump with
      |none=>oP j O fun O=>tn fun fr=>Q .ret fr O nx
      |some id=>oP j O fun O=>tn fun fr=>Q (.exit id) fr O nx
  |_=>uF "record"
 |none=>uF "record"
section
variable {M:Mx}{J:Env}{w:World}{O:vX}{nx:Nat}
theorem nN.longer(h:nN M){J:Env}(hp:M.η0<+:J){N:Nat}{ro:Option (Nat×Nat)}:nN (M.at N ro J):=by
 intro b hh hb;have hb':ez M.C b=some hh:=by cases b<;>exact hb
 obtain⟨h1,h2⟩:=h b hh hb';obtain⟨x,hx,_⟩:=h1.lt;exact⟨h1.mono hp,fun k f=>h2 k (vY.less hp hx f)⟩
theorem vR.at(H:vR M J w O nx){N:Nat}{ro:Option (Nat×Nat)}:vR (M.at N ro J) J w O nx:=⟨zu,H.len,H.own,H.fr,H.wm.longer H.pre⟩
theorem vR.back{η0:Env}{N:Nat}{ro:Option (Nat×Nat)}(H:vR (M.at N ro η0) J w O nx)(hp:M.η0<+:η0)(hs:nN M):vR M J w O nx:=⟨hp.trans H.pre,H.len,H.own,H.fr,hs⟩
theorem Z80(hT:uC M.P M.C.T){g:FuncId}{fn:Func}{c:Code}(hf:M.P.funcs[g]?=some fn)(hb:fn.body=some c)(N:Nat)(hN:fn.ntmps=N)(bp:N<=DS){args:List SV}(hlen:args.length<=N){res:List ResultVar}(hres:fn.results=res.toArray)
 {K:SV->vX->Nat->Prop} {vs:List Value} (H:vR M J w O nx) (hd:vV J args vs) (h:run (M.at N none J) c (UG 0 args) O nx (tj (M.at N none J) res K))
 {R:Ending->World->Prop} (hR:∀v r w' O' vW η',J<+:η'->vR M η' w' O' vW->Den η' r v->K r O' vW->R (.returned v) w'):Calls M.P g ⟨vs⟩ w R:=by
 have hl:=ZU hd;refine callsIn_wide (n:=0)|>.1 (callsIn_of_wp_marks hf hb trivial ?_)
 have hm:u7 (M.at N none J) J (UG 0 args) O nx {tmps:=⟨vs⟩++Array.replicate (fn.ntmps-(Array.mk vs).size) undef,defers:=[]} w:=by
  refine⟨H.at,?_,bp,Dh (zO hlen bp),(fun l j h=>by cases h),?_⟩
  .simp only[vQ,Array.size_replicate,hN,ye];show vs.length+(N-vs.length)=N
   omega
  .intro t sv ht;obtain⟨v,_,h1,h2⟩:=Fe hd ht;have hlt:=(ze.1 h1).1;simp only[Nat.sub_zero]at h1 hlt;rw[zZ,y9 (by simpa using hlt)];have:(Array.mk vs)[t]?=some v:=by simpa using h1
   rw[this];exact h2
 refine Code.wpIn_mono ?_ (Y5 (M:=M.at N none J) hT c h J _ w hm)
 have fin:∀{η1:Env} {qV:Fr} {O1:vX} {kK:Nat} {a:Act} {w1:World},u7 (M.at N none J) η1 qV O1 kK a w1->(nS qV O1 fun O1=>ox (M.at N none J).C qV O1 res fun vs=>K (nR vs) O1 kK)->
  LeavesInM Fence.wide 0 M.P fn a.tmps R a.defers .returning w1:=by
  intro η1 qV O1 kK a w1 qy hr;exact Dg (M:=M.at N none J) hT hres qy hr fun w2 O2 v r H2 hd2 hk=>hR v r w2 O2 kK η1 H2.pre (H2.back H.pre H.wm) hd2 hk
 intro e a w hq;cases e with
 |normal=>obtain⟨η1,qV,O1,kK,qy,hq⟩:=hq;exact fin qy hq
 |ret=>obtain⟨η1,qV,O1,kK,qy,hq⟩:=hq;exact fin qy hq
 |exit id=>obtain⟨η1,qV,O1,kK,qy,hq⟩:=hq;exact hq.out.elim
 |goto l=>exact hq.elim
 |panic ch=>obtain⟨_,_,hn,_⟩:=hq;cases hn
 |outgrown=>exact hq.elim
def Xd:List Nat->List Value->Array Value->Array Value
 |p::ps,v::vs,t=>Xd ps vs (t.setIfInBounds p v)
 |_,_,t=>t
theorem Z81:∀(ps:List Nat) (vs:List Value) (t:Array Value),((ps.toArray.zip ⟨vs⟩).foldl (fun tmps (p:Nat×Value)=>tmps.setIfInBounds p.1 p.2) t)=Xd ps vs t:=by
 intro ps vs t;have h1:(ps.toArray.zip ⟨vs⟩:Array (Nat×Value))=(ps.zip vs).toArray:=by simp
 rw[h1,<-Array.foldl_toList];simp only
 induction ps generalizing vs t with
 |nil=>simp[Xd]
 |cons p ps ih=>
  cases vs with
  |nil=>simp[Xd]
  |cons v vs=>
   simp only[List.zip_cons_cons,List.foldl_cons,Xd];exact ih vs (t.setIfInBounds p v) (by simp)
theorem Mz:∀(ps:List Nat) (vs:List Value) (t:Array Value),(Xd ps vs t).size=t.size
 | [],vs,t=>by simp[Xd]
 |p::ps,[],t=>by simp[Xd]
 |p::ps,v::vs,t=>by simp only[Xd];rw[Mz ps vs];simp
theorem MA{J:Env}:∀{ps:List Nat} {n5:List SV} {fr:Fr} {K:Fr->Prop} {vs:List Value} {t:Array Value},Kz ps n5 fr K->vV J n5 vs->qj J t fr->(∀p∈ps,p<t.size)->∃fr',K fr'/\sI (u5 DS fr')=false/\qj J (Xd ps vs t) fr'/\vs.length=ps.length
 | [],n5,fr,K,vs,t,h,hd,ht,hp=>by
   simp only[Kz]at h;split at h
   .split at h
    exact h.out.elim
    .rename_i hn;simp only[vV]at hd;subst hd;exact⟨fr,h,hn,ht,rfl⟩
   exact h.out.elim
 |p::ps,n5,fr,K,vs,t,h,hd,ht,hp=>by
  simp only[Kz]at h;split at h
  .rename_i a n5;simp only[vV]at hd;obtain⟨u,us,rfl,h1,h2⟩:=hd;have hpt:=hp p (zJ ..)
   obtain⟨fr',h3,h4,h5,h6⟩:=MA (t:=t.setIfInBounds p u) h h2 (fun s sv hs=>by
    rw[Z8]at hs;split at hs
    .rename_i e;subst e;injection hs with hs;subst hs
     simpa[zZ,yT,hpt]using h1
    .rename_i e;rw[zZ,yT,z7 (yY e),<-zZ]
     exact ht s sv hs) (fun q hq=>by rw[Array.size_setIfInBounds];exact hp q (zK _ hq))
   exact⟨fr',h3,h4,h5,by simp[h6]⟩
  exact h.out.elim
theorem vR.record(H:vR M J w O nx){j:Nat}{st st':aM}{li:mh}{kF:Fr}(hj:u5 j O=some (.lp st li kF)){e:wZ}(he:J[j]?=some (some e)):
 ∃r,w.heap[e.g]?=some (.loop r)/\r.state=st.state/\r.pending=st.jump/\∀r':Loop,r'.state=st'.state->r'.pending=st'.jump->r'.params=r.params->r'.assign=r.assign->r'.body=r.body->r'.tmps=r.tmps->vR M J (w.putObj e.g (.loop r')) (uI j (.lp st' li kF) O) nx:=by
 have hs:=(H.own.1 j _ hj).1;simp only[vT]at hs;obtain⟨e',r,h1,h2,h3,h4,h5,h6,h7,h8,h9,h10⟩:=hs;have kS:J[j]?=some (some e'):=h1;rw[he]at kS;injection kS with kS;injection kS with kS;subst kS;have hlt:=(zA.1 h3).1;refine⟨r,h3,h4,h5,fun r' q1 q2 q3 q4 q5 q6=>?_⟩;refine H.kZ hj he (fun k hk=>World.putObj_heap_other hk) World.putObj_size rfl rfl rfl ?_;simp only[vT];exact⟨e,r',h1,h2,World.putObj_heap_same hlt,q1,q2,by rw[q3];exact h6,by rw[q4];exact h7,by rw[q5];exact h8,by rw[q6];exact h9,by rw[q6];exact h10⟩
theorem eU.of(hT:uC M.P M.C.T){j:Nat}{li:mh}{kF:Fr}{args:List SV}{K:SV->vX->Nat->Prop}(hj:u5 j O=some (.lp .ready li kF))(hps:li.ps.all (fun p=>Nat.blt p li.N)=true)(bp:Nat.ble li.N DS=true)
 (h:∀(η1:Env) (l:Nat),η1.length=nx->Kz li.ps args kF fun fr=>run (M.at li.N (some (l,j)) η1) li.eo fr O nx (My (M.at li.N (some (l,j)) η1) j li.body K)):eU M j args O nx K:=by
 refine⟨fun J w vs e H hd he=>?_⟩;obtain⟨r,hr,hst,hpe,_⟩:=H.record (st':= .ready) hj he;have hs:=(H.own.1 j _ hj).1;simp only[vT]at hs;obtain⟨e',r',h1,h2,h3,h4,h5,h6,h7,h8,h9,h10⟩:=hs;have kS:J[j]?=some (some e'):=h1;rw[he]at kS;injection kS with kS;injection kS with kS;subst kS;rw[hr]at h3;injection h3 with h3;injection h3 with h3;subst h3;obtain⟨fr,hrun,hnd,FM,hlen⟩:=MA (h J e.g H.len) hd h10 (fun p hp=>by rw[h9];simpa[yR]using zT.1 hps p hp);have bg:r.params=li.ps.toArray:=by rw[<-h6]
 refine⟨r.fn,_,r.assign,r.body,run_yield hr (by rw[bg];simpa using hlen),?_⟩;rw[h7,h8];have ah:((r.params.zip ⟨vs⟩).foldl (fun tmps (x:Nat×Value)=>tmps.setIfInBounds x.1 x.2) r.tmps)=Xd li.ps vs r.tmps:=by rw[bg];exact Z81 li.ps vs r.tmps
 have tq:((r.params.zip ⟨vs⟩).foldl (fun tmps x=>match x with|(t,a)=>tmps.setIfInBounds t a) r.tmps)=Xd li.ps vs r.tmps:=ah;rw[tq];generalize mP:M.at li.N (some (e.g,j)) J=Mr at hrun;have MB:uC Mr.P Mr.C.T:=by subst mP;exact hT
 have hpx:Mr.px=none:=by subst mP;rfl
 have hPr:Mr.P=M.P:=by subst mP;rfl
 have hfr:Mr.uo=Fence.wide.inRound e.g:=by subst mP;rfl
 have hm:u7 Mr J fr O nx {tmps:=Xd li.ps vs r.tmps,defers:=[]} w:=by
  subst mP;refine⟨H.at,by rw[Mz];exact h9,zU bp,(qw.no hnd).2 rfl,fun l' j' hl=>?_,FM⟩;injection hl with hl;injection hl with kz nQ;subst kz nQ;exact⟨e,he,rfl⟩
 refine roundIn_of_wpIn trivial ?_;rw[<-hPr,<-hfr];refine Code.wpIn_mono ?_ (Y5 MB li.eo hrun J _ w hm);intro ex a1 w1 hq;cases ex with
 |exit id=>obtain⟨η1,qV,O1,kK,qy,hq⟩:=hq;exact hq.out.elim
 |ret=>obtain⟨η1,qV,O1,kK,qy,hq⟩:=hq;exact hq.out.elim
 |goto l=>exact hq.elim
 |panic ch=>obtain⟨_,_,hn,_⟩:=hq;rw[hpx]at hn;cases hn
 |outgrown=>exact hq.elim
 |normal=>
  obtain⟨η1,qV,O1,kK,qy,hq⟩:=hq;simp only[My]at hq;split at hq
  case h_2=>exact hq.out.elim
  rename_i hh hj1;split at hq
  case h_2=>exact hq.out.elim
  rename_i st1 li1 Cb;split at hq
  case h_2=>exact hq.out.elim
  rw[Ju]at hq;obtain⟨e1,he1,heg⟩:=qy.ro e.g j (by subst mP;rfl);obtain⟨r1,tr,hs1,hp1,KA⟩:=qy.heap.record (st':= .busy) hj1 he1;rw[heg]at tr KA;refine⟨_,run_beginRound tr hs1,?_⟩;have hm2:u7 Mr η1 qV (uI j (.lp .busy li1 Cb) O1) kK a1 (w1.putObj e.g (.loop {r1 with state:= .busy})):=⟨KA _ rfl hp1 rfl rfl rfl rfl,qy.size,qy.fK,qy.defers,qy.ro,qy.frame⟩;refine Code.wpIn_mono ?_ (Y5 MB li.body hq η1 a1 _ hm2)
  have fin:∀{ex:Ex} {η2:Env} {fQ:Fr} {O2:vX} {aY:Nat} {a2:Act} {w2:World} (jump:Option Code),u7 Mr η2 fQ O2 aY a2 w2->C9 j K ex fQ O2 aY->(match ex with| .normal=>jump=none| .ret=>jump=some .ret| .exit id=>jump=some (.exit id))->
   ∃v w',(Instr.endRound e.g jump).run Mr.P w2= .ok v w'/\∃v',Ending.returned v= .returned v'/\∃r O' vW η',J<+:η'/\vR M η' w' O' vW/\Den η' r v'/\K r O' vW:=by
   intro ex η2 fQ O2 aY a2 w2 jump hm2 hq hj';unfold C9 at hq;split at hq
   case h_2=>exact hq.out.elim
   rename_i hh hj2;split at hq
   case h_2=>exact hq.out.elim
   rename_i st2 li2 z1K;split at hq
   case h_2=>exact hq.out.elim
   obtain⟨e2,mQ,tu⟩:=hm2.ro e.g j (by subst mP;rfl);have hpre:J<+:η2:=by have:=hm2.heap.pre;subst mP;exact this
   have back:∀{w':World} {O':vX},vR Mr η2 w' O' aY->vR M η2 w' O' aY:=fun h=>by subst mP;exact h.back H.pre H.wm
   cases ex with
   |normal=>
    simp only at hj';subst hj';simp only[Ju]at hq;obtain⟨r2,rA,hs2,hp2,cN⟩:=hm2.heap.record (st':= .ready) hj2 mQ;rw[tu]at rA cN;exact⟨_,_,run_endRound none rA,_,rfl, .bool true,_,_,η2,hpre,back (cN _ rfl rfl rfl rfl rfl rfl),(by simp only[Den];rfl),hq⟩
   |ret=>
    simp only at hj';subst hj';simp only[Ju]at hq;obtain⟨r2,rA,hs2,hp2,cN⟩:=hm2.heap.record (st':= .left none) hj2 mQ;rw[tu]at rA cN;exact⟨_,_,run_endRound (some .ret) rA,_,rfl, .bool false,_,_,η2,hpre,back (cN _ rfl rfl rfl rfl rfl rfl),(by simp only[Den];rfl),hq⟩
   |exit id=>
    simp only at hj';subst hj';simp only[Ju]at hq;obtain⟨r2,rA,hs2,hp2,cN⟩:=hm2.heap.record (st':= .left (some id)) hj2 mQ;rw[tu]at rA cN;exact⟨_,_,run_endRound (some (.exit id)) rA,_,rfl, .bool false,_,_,η2,hpre,back (cN _ rfl rfl rfl rfl rfl rfl),(by simp only[Den];rfl),hq⟩
  intro ex a2 w2 bh;cases ex with
  |normal=>obtain⟨η2,fQ,O2,aY,hm2,bh⟩:=bh;exact fin none hm2 bh rfl
  |ret=>obtain⟨η2,fQ,O2,aY,hm2,bh⟩:=bh;exact fin (some .ret) hm2 bh rfl
  |exit id=>obtain⟨η2,fQ,O2,aY,hm2,bh⟩:=bh;exact fin (some (.exit id)) hm2 bh rfl
  |goto l=>exact bh.elim
  |panic ch=>obtain⟨_,_,hn,_⟩:=bh;rw[hpx]at hn;cases hn
  |outgrown=>exact bh.elim
theorem Cc{K:Fr->Prop}:∀{fr:Fr},n9 fr K->∃kF,K kF/\u5 DS kF=none/\∀t v,u5 t kF=some v->u5 t fr=some v
 | [],h=>⟨[],h,rfl,fun t v h=>h⟩
 |(d,u)::r,h=>by
  unfold n9 at h;split at h
  .rename_i e;have e:=Zr e;obtain⟨kF,h1,h0,h2⟩:=Cc h;refine⟨kF,h1,h0,fun t v ht=>?_⟩;rw[Z8];split
   .rename_i e2;rw[e2,e,h0]at ht;cases ht
   exact h2 t v ht
  .rename_i e;have e:=Jv e;obtain⟨kF,h1,h0,h2⟩:=Cc h;refine⟨(d,u)::kF,h1,by rw[Z8,z7 (yY e)];exact h0,fun t v ht=>?_⟩;rw[Z8]at ht⊢;split
   rename_i e;rw[zf e]at ht;exact ht;rename_i e;rw[z7 e]at ht;exact h2 t v ht
theorem ZbW(hT:uC M.P M.C.T){gf g:FuncId}{fn:Func}{c:Code}{cap:List SV}(jO:∀args w,(callFunc gf args).run M.P w= .ok (.enter g args) w)(hf:M.P.funcs[g]?=some fn)(hb:fn.body=some c)(N:Nat)(hN:fn.ntmps=N)(bp:N<=DS)(hlen:cap.length+1<=N)(hres:fn.results= #[])
 {f:Operand} {Q:Post} {a a':Act} {η1:Env} {w1:World} {O1:vX} {n1 j l:Nat} (Cd:∃vs,a.eval f= .func (.func gf) #[] ⟨vs⟩/\vV η1 cap vs) (H1:vR M η1 w1 O1 n1) (hj:η1[j]?=some (some ⟨l,0,0⟩)) {tn:(Fr->Prop)->Prop}
 (tv:∀{K:Fr->Prop},tn K->∃fr',K fr'/\∀η' w' O' vW,η1<+:η'->vR M η' w' O' vW->u7 M η' fr' O' vW a' w')
 (h:run (M.at N none η1) c (UG 0 (.yf (.loc j)::cap)) O1 n1 (tj (M.at N none η1) [] (Ca j tn Q))):
 ∃(d:Deferred) (KB:World) (f':FuncId) (args:Array Value) (w2:World),(resolve a.eval (rangeCall f l) 0).run M.P w1= .ok d KB/\(∀f',Target.leads M.P KB d.target d.args=some f'->M.uo.fn f')/\(invoke d.target d.args).run M.P KB= .ok (.enter f' args) w2/\
  (M.uo.depth.isSome=true->1<=0)/\CallsIn M.uo (0-1) M.P f' args w2 (rangePost M.uo 0 M.P l (iC M Q) a'):=by
 obtain⟨vs,hv,hd⟩:=Cd;refine⟨{target:= .fn (.func gf) ⟨vs⟩,args:= #[.func (.yield l) #[] #[]]},w1,g, #[.func (.yield l) #[] #[]]++⟨vs⟩,w1,?_,fun f' _=>M.all f',?_,(fun h=>by cases h),?_⟩
 .simp only[resolve,hv];simp[go_sem]
 simp[invoke,go_sem,jO]
 .have hargs:(#[.func (.yield l) #[] #[]]++(⟨vs⟩:Array Value))=⟨Value.func (.yield l) #[] #[]::vs⟩:=by apply yD;simp
  rw[hargs]
  have j8:vV η1 (.yf (.loc j)::cap) (Value.func (.yield l) #[] #[]::vs):=by
   simp only[vV,Den];exact⟨_,_,rfl,⟨_,hj,rfl⟩,hd⟩
  refine callsIn_wide.2 (Z80 hT hf hb N hN bp (by simpa using hlen) (by simpa using hres) H1 j8 h fun v r w' O' vW η' hp H' hd' hk=>?_);unfold Ca at hk;split at hk
  case h_2=>exact hk.out.elim
  rename_i hh hj';split at hk
  case h_2=>exact hk.out.elim
  rename_i st li kF;have tw:η'[j]?=some (some ⟨l,0,0⟩):=Env.uc (b:= .loc j) hp hj;obtain⟨r1,tr,hs1,hp1,_⟩:=H'.record (st':= .ready) hj' tw;obtain⟨s1,p1,c1,c2,c3,c4,c5,c6⟩:=r1;simp only at tr hs1 hp1;subst hs1 hp1;have ng:vR M η' (w'.putObj l (.loop {state:= .exhausted,pending:=st.jump,fn:=c1,tmps:=c2,params:=c3,assign:=c4,body:=c5,defers:=c6})) (uU j O') vW:=H'.drop hj' tw (fun k hk=>World.putObj_heap_other (by rintro rfl;exact hk (vY.own (b:= .loc j) tw))) World.putObj_size rfl rfl rfl (zo _);split at hk
  .rw[XR]at hk;obtain⟨fr',h1,h2⟩:=tv hk;exact⟨_,_,run_endLoop tr (by simp[aM.state]),⟨η',fr',_,vW,h2 η' _ _ _ hp ng,h1⟩⟩
  exact hk.out.elim
  .split at hk
   .rw[XR]at hk;obtain⟨fr',h1,h2⟩:=tv hk;exact⟨_,_,run_endLoop tr (by simp[aM.state]),wpIn_ret ⟨η',fr',_,vW,h2 η' _ _ _ hp ng,h1⟩⟩
   .rw[XR]at hk;obtain⟨fr',h1,h2⟩:=tv hk;exact⟨_,_,run_endLoop tr (by simp[aM.state]),wpIn_exit ⟨η',fr',_,vW,h2 η' _ _ _ hp ng,h1⟩⟩
theorem Zg5{fr:Fr}{d:Nat}{K:Fr->Prop}(h:FL fr d K):∃l,K ((DS, .jJ (.ptr (.loc d) 0 0 0::l))::fr)/\∀{J:Env} {ds:List Deferred},qw J ds (u5 DS fr)->kW J l ds:=by
 unfold FL at h;split at h
 .rename_i v hv;split at h
  .rename_i l;exact⟨l,h,fun hd=>by rw[hv]at hd;exact hd⟩
  .rename_i hn;refine⟨[],h,fun hd=>?_⟩;rw[hv]at hd;have:sI (some v)=false:=by cases v<;>first|rfl|exact(hn _ rfl).elim
   rw[qw.no this]at hd;subst hd;rfl
 .rename_i hv;refine⟨[],h,fun hd=>?_⟩;rw[hv]at hd;have hd:_=[]:=hd;subst hd;rfl
theorem qQ.of(hT:uC M.P M.C.T){f:Operand}{ps:Array Tmp}{eo body:Code}{fr:Fr}{Q:Post}{gf g:FuncId}{cap:List SV}{fn:Func}{c:Code}(jO:∀args w,(callFunc gf args).run M.P w= .ok (.enter g args) w)(hf:M.P.funcs[g]?=some fn)(hb:fn.body=some c)(N:Nat)(hN:fn.ntmps=N)
 (li:mh) (mR:li=⟨M.C.N,ps.toList,eo,body⟩) (hv:V3 fr f=some (.fn (.func gf) [] cap)) (hlen:Nat.ble (cap.length+1) N=true) (hres:fn.results= #[]) (hro:M.C.ro=none)
 (h:n9 fr fun kF=> ∀η1:Env,η1.length=nx+2->run (M.at N none η1) c (UG 0 (.yf (.loc (nx+1))::cap)) ((nx+1, .lp .ready li kF)::(nx, .jV [])::O) (nx+2) (tj (M.at N none η1) [] (Ca (nx+1) (FL fr nx) Q))) (bp:Nat.ble N DS=true:=by rfl):qQ M f ps eo body fr O nx Q:=by
 obtain⟨kF,h,_,sx⟩:=Cc h;refine⟨fun J a w hm=>wpIn_rangeFunc fun Ce _=>?_⟩;have tA:M.uo.round=none:=by simp[Mx.uo,hro]
 rw[tA];obtain⟨rec,KC⟩:∃rec:Loop,rec={state:= .ready,pending:=none,fn:=Ce,tmps:=a.tmps,params:=ps,assign:=eo,body,defers:=w.heap.size}:=⟨_,rfl⟩;have hl:=hm.heap.len;obtain⟨η1,hη1⟩:∃η1:Env,η1=J++ [some ⟨w.heap.size,0,0⟩]:=⟨_,rfl⟩
 have H1:vR M η1 (w.alloc (.deferred (some []))) ((nx, .jV [])::O) (nx+1):=by
  rw[hη1];refine hm.heap.alloc (w':=w.alloc (.deferred (some []))) (o:= .deferred (some [])) (h:= .jV []) rfl rfl rfl rfl 0 0 ?_;simp only[vT];exact⟨⟨w.heap.size,0,0⟩,by simp[Env.get,<-hl],rfl,World.alloc_heap_new w _,(fun n hn=>nomatch hn),by simp⟩
 have kz:=H1.len;obtain⟨η2,hη2⟩:∃η2:Env,η2=η1++ [some ⟨w.heap.size+1,0,0⟩]:=⟨_,rfl⟩;have hsz:(w.alloc (.deferred (some []))).heap.size=w.heap.size+1:=World.size_alloc _ _;have hpre:J<+:η2:=by rw[hη2,hη1,zR];exact zz _ _
 have hj2:η2[nx+1]?=some (some ⟨w.heap.size+1,0,0⟩):=by rw[hη2,<-kz];simp
 have hd2:η2[nx]?=some (some ⟨w.heap.size,0,0⟩):=by
  rw[hη2,zn (by omega),hη1,<-hl];simp
 have H2:vR M η2 ((w.alloc (.deferred (some []))).alloc (.loop rec)) ((nx+1, .lp .ready li kF)::(nx, .jV [])::O) (nx+2):=by
  have:=H1.alloc (w':=(w.alloc (.deferred (some []))).alloc (.loop rec)) (o:= .loop rec) (h:= .lp .ready li kF) rfl rfl rfl rfl 0 0 (by
   rw[hsz,<-hη2];simp only[vT];refine⟨_,rec,hj2,rfl,by rw[<-hsz];exact World.alloc_heap_new _ _,?_⟩;subst KC mR
   exact⟨rfl,rfl,rfl,rfl,rfl,hm.size,fun t sv ht=>(hm.frame t sv (sx t sv ht)).mono hpre⟩)
  rw[hsz,<-hη2]at this;exact this
 have Cd:∃vs,a.eval f= .func (.func gf) #[] ⟨vs⟩/\vV η2 cap vs:=by
  have:=Yw hm.frame hv;simp only[Den,vV]at this;obtain⟨us,vs,h1,rfl,h3⟩:=this;exact⟨vs,h1,h3.mono hpre⟩
 obtain⟨d,KB,f',args,w2,q1,q2,q3,q4,q5⟩:=ZbW (a':={a with defers:=[{target:= .collected w.heap.size,args:= #[]}]++a.defers}) hT jO hf hb N hN (zU bp) (zU hlen) hres Cd H2 hj2 (tn:=FL fr nx) (fun{K} hk=>by
  obtain⟨l,h1,h2⟩:=Zg5 hk;refine⟨_,h1,fun η' w' O' vW hp H'=>⟨H',hm.size,hm.fK,?_,Ub (hpre.trans hp) hm.ro,fun t sv ht=>?_⟩⟩
  .rw[Z8,zf rfl];exact⟨⟨w.heap.size,0,0⟩,a.defers,Env.uc (b:= .loc nx) hp hd2,rfl,h2 (hm.defers.mono (hpre.trans hp))⟩
  .rw[Z8]at ht;split at ht
   injection ht with ht;subst ht;simp only[Den]
   exact(hm.frame t sv ht).mono (hpre.trans hp)) (h η2 H2.len)
 refine⟨w.heap.size+1,[{target:= .collected w.heap.size,args:= #[]}],_,d,KB,f',args,w2,run_enterLoop_outer _ _ _ _ _,?_,q2,q3,q4,q5⟩;rw[KC]at q1;exact q1
end
theorem u0.weak{M:Mx}{O O1:vX}{nx n1:Nat}{r r1:SV}{Q:SV->vX->Nat->Prop}(h:∀J w v,vR M J w O nx->Den J r v->∃η',J<+:η'/\vR M η' w O1 n1/\Den η' r1 v)(hf:u0 M O1 n1 r1 Q):u0 M O nx r Q:=
 ⟨fun J w v H hd=>let⟨η1,h1,h2,h3⟩:=h J w v H hd;hf.out η1 w v h2 h3⟩
theorem u0.nil{M:Mx}{O:vX}{nx:Nat}{Q:SV->vX->Nat->Prop}(es:Nat)(hf:u0 M ((nx, .rows es [])::O) (nx+1) (.sl (.loc nx) 0 es 0 none) Q):u0 M O nx (.val (.slice none 0 0)) Q:=by
 refine u0.weak (fun J w v H hd=>?_) hf;have hnew:(J++ [none])[nx]?=some none:=by rw[zw (by rw[H.len];omega),H.len];simp
 refine⟨J++ [none],zz _ _,H.push none (fun _ _=>rfl) (zo _) rfl rfl rfl (zo _) (.inl ⟨hnew,rfl⟩) (fun k f=>(vY.none (b:= .loc nx) hnew f).elim) (fun k f=>(vY.none (b:= .loc nx) hnew f).elim),?_⟩;simp only[Den]at hd⊢;exact .inl ⟨hnew,hd.1,trivial⟩
theorem u0.w8{M:Mx}{O:vX}{nx:Nat}{r:SV}{Q:SV->vX->Nat->Prop}(i j es:Nat){row row':List SV}(hi:u5 i O=some (.box row))(hr:pY nx es j row=some row')(hf:u0 M ((nx, .rows es [])::uI i (.box row') O) (nx+1) r Q):u0 M O nx r Q:=
 u0.weak (fun J w v H hd=>let⟨η',h1,h2⟩:=H.w8 hi hr;⟨η',h1,h2,Den.mono h1 hd⟩) hf
end Go.Sx
namespace Go.Sx
open Go Go.Sort Go.Shelf Go.Proofs Go.Our
def Ze(s:List UInt8):List SV:=[.str s]
theorem Zq(l:List (List UInt8)):Zj (l.map Ze)=true:=ZD _ (fun _=>rfl) l
instance :dZ Ze:=⟨fun _=>rfl⟩
theorem leS(x y:List UInt8):decide (x<=y)=q9 cmpL x y:=by
 show decide (x<=y)=!decide (Lib.compareBytes y x<0)
 rw[<-UV,Go.Proofs.bytesLess_eq];rw[zX];simp[List.not_lt]
theorem Ur(w:World)(blk m:Nat)(d:Array (List UInt8))(os:Array Obj):(grow (putRow encStr (Sort.ahead w m) blk 0 d) os).heap=(mapBlock w blk (putCells encStr 0 d)).heap++os:=by simp[grow,putRow,mapBlock,Sort.ahead]
theorem Z6n(w:World)(blk m:Nat)(d:Array (List UInt8))(os:Array Obj):w.heap.size<=(grow (putRow encStr (Sort.ahead w m) blk 0 d) os).heap.size:=by
 rw[Ur];simp[mapBlock]
theorem Z4L(w:World)(blk m:Nat)(d:Array (List UInt8))(os:Array Obj){g:Nat}(hg:g<w.heap.size)(hne:g≠blk):(grow (putRow encStr (Sort.ahead w m) blk 0 d) os).heap[g]?=w.heap[g]?:=by
 rw[Ur,y9 (by simpa[mapBlock]using hg)];simp only[mapBlock,yh];rw[z7 (fun h=>hne h.symm)]
theorem Z83(w:World)(blk m:Nat)(d:Array (List UInt8))(os:Array Obj){c:Array Value}{T:TypeId}{fz:Nat×Nat}(h:w.heap[blk]?=some (.cells c T fz)):(grow (putRow encStr (Sort.ahead w m) blk 0 d) os).heap[blk]?=some (.cells (putCells encStr 0 d c) T fz):=by
 have hlt:=(zA.1 h).1;rw[Ur,y9 (by simpa[mapBlock]using hlt)];simp only[mapBlock,yh,yJ,h,Option.map_eq_map,Option.map_some,onCells]
theorem Z84{P:Program}{T:wU}{ρ:Ren}(L:Lays.n190 P ρ)(ef:∀args w,(callFunc (ρ.f 190) args).run P w= .ok (.enter (ρ.f 190) args) w)(l:List (List UInt8))(hl:l.length<4611686018427387904):
 vS P T (ρ.f 190) 1 [.sl (.loc 0) 0 1 l.length none] [(0, .rows 1 (l.map Ze))] [] (fun r O nx=>r= .uz []/\O=[(0, .rows 1 ((l.mergeSort (q9 cmpL)).map Ze))]/\nx=1):=by
 refine⟨fun M vs hP cD hF hS H hd=> .inl ⟨ρ.f 190,by rw[hP];exact ef _ _,?_⟩⟩;obtain⟨P',⟨T',N',S',pK⟩,w0,F,η0,nT⟩:=M;simp only at hP cD hF hS H hd⊢;subst hP cD;simp only[vV]at hd;obtain⟨v,us,rfl,hv,rfl⟩:=hd;have u9:=(H.own.1 0 _ rfl).1;simp only[vT,Env.get]at u9;simp only[Den,Env.get]at hv
 have fin:∀w' (O':vX),qW w0 w' F->vT η0 w' true (.loc 0) (.rows 1 ((l.mergeSort (q9 cmpL)).map Ze))->
  ∃r O' vW η',(r=SV.uz []/\O'=[(0,Hp.rows 1 ((l.mergeSort (q9 cmpL)).map Ze))]/\vW=1)/\η0<+:η'/\vR ⟨P',⟨T',N',S',pK⟩,w0,F,η0,nT⟩ η' w' O' vW/\Den η' r (.tuple #[]):=by
  intro w' O' hfr hs;refine⟨_,_,_,η0,⟨rfl,rfl,rfl⟩,zu,⟨H.pre,H.len,⟨fun i h hi=>?_,fun i j h h' k hi hj hij f f'=>?_⟩,hfr,H.wm⟩,?_⟩
  .rw[Z8]at hi;split at hi
   .rename_i e;subst e;injection hi with hi;subst hi;refine⟨hs,fun n f=>(H.own.1 0 _ rfl).2 n ?_⟩;obtain⟨e,h1,h2⟩:=f;exact⟨e,h1,h2⟩
   simp[u5]at hi
  .rw[Z8]at hi hj;split at hi
   .rename_i e;subst e;split at hj
    rename_i e2;exact(hij e2.symm).elim;simp[u5]at hj
   simp[u5]at hi
  simp only[Den,vV];exact⟨[],rfl,rfl⟩
 rcases u9 with⟨hn,hnil⟩|⟨e,arr,Tt,fz,he,hheap,hown,hcells⟩
 .have hl0:l=[]:=by simpa using hnil
  subst hl0
  have Kx:v= .slice none 0 0:=by
   rcases hv with⟨_,h,_⟩|⟨e,o,h,_⟩
   exact h;rw[hn]at h;cases h
  subst Kx;refine(Any.slices_Sort_string_none L none 0 w0).mono ?_;rintro e w' ⟨rfl,rfl⟩;refine⟨_,rfl,fin _ [] (qW.refl _ _) ?_⟩;simp only[vT,Env.get];exact .inl ⟨hn,by simp⟩
 .obtain⟨hun,hsz,hle,hb0⟩:=hown trivial
  obtain⟨hel,th⟩:l.length<=e.cap/\v= .slice (some ⟨e.g,0,none⟩) l.length e.cap:=by
   rcases hv with⟨h,_⟩|⟨e',o,h,h2,h3,h4,h5⟩
   rw[he]at h;cases h
   .rw[he]at h;cases h;simp only[Option.getD_none,zx,Nat.sub_zero]at h2 h3;have:=h5 (.inr trivial);rw[hb0]at this;simp only[yO,Nat.add_zero]at this;subst this;exact⟨h3,h2⟩
  subst th;have hblk:e.g<w0.heap.size:=(zA.1 hheap).1;have hsize:l.length<=arr.size:=by rw[hsz];omega
  have hcell:∀(i:Nat) (x:List UInt8),l[i]?=some x->arr[i]?=some (encStr x):=by
   intro i x hi;obtain⟨h1,h2⟩:=hcells i (Ze x) (by rw[z6,hi];rfl);obtain⟨u,h3,h4,h5⟩:=h2 0 (.str x) rfl;rw[hb0,zx,xL,Nat.add_zero]at h3;simp only[Den]at h5;rw[h3,h5];try rfl
  have hH:Holds encStr w0 e.g 0 l.toArray:=by
   intro t ht;rw[ye]at ht;have h4:=hcell t l[t] (z1 ht);refine⟨by rw[zx,FK hheap,h4];simp[ht],?_⟩;have:=hun t (by omega);simp only[World.frozen?,hheap,zx];simpa using this
  have hFg:F e.g:=by
   rcases(H.own.1 0 _ rfl).2 e.g ⟨e,he, .inl rfl⟩with h|h
   exact h
   .have h:w0.heap.size<=e.g:=h;omega
  have hmain:=Any.slices_Sort_string L e.g 0 e.cap l w0 hH hblk hl;rw[show(fun x y:List UInt8=>decide (x<=y))=q9 cmpL from funext fun x=>funext fun y=>leS x y]at hmain;refine hmain.mono ?_;rintro e1 w' ⟨rfl,n,os,rfl⟩;refine⟨_,rfl,fin _ [] ?_ ?_⟩
  .refine⟨rfl,rfl,rfl,?_,Z6n ..,fun b hb Ky=>Z4L w0 e.g n _ os hb (fun e=>Ky (e▸hFg))⟩;simp[grow,putRow,mapBlock,Sort.ahead]
  .simp only[vT,Env.get];have kL:(l.mergeSort (q9 cmpL)).length=l.length:=yt l;refine .inr ⟨e,_,Tt,fz,he,Z83 w0 e.g n _ os hheap,fun _=>⟨?_,?_,?_,hb0⟩,fun i j9 hi=>?_⟩;simp only[putCells,xu];exact hun;simp only[putCells,xu];exact hsz;rw[zy,kL];exact hel
   .rw[z6]at hi;obtain⟨x,hx,rfl⟩:=zC.1 hi;refine⟨rfl,fun j sv hj=>?_⟩;have hil:=(ze.1 hx).1
    match j,hj with
    |0,hj=>
     injection hj with hj;subst hj;refine⟨encStr x,?_,rfl,by simp only[Den];try rfl⟩;have hlt:i<arr.size:=by omega
     rw[hb0,zx,xL,Nat.add_zero];have iF:=(ze.1 hx).2;have tB:i<l.length:=by omega
     simp only[putCells,vm,yL hlt,Option.map_some,ve,xI,zx,ye,kL,tB,yJ,Nat.sub_zero];rw[Array.getElem!_eq_getD,zZ];simp[hx]
end Go.Sx
namespace Go.Our
section
variable {K:Type}{c:K->K->Int}
end
theorem Z87{l:List Qd}(h:∀k (hk:k<l.length),1<=k->ZP (l[k-1]'(by omega)) l[k]<0):wQ ZP l:=by
 refine xk.2 fun i j hi hj hij=>?_
 induction j with
 |zero=>omega
 |succ j ih=>
  have h1:=h (j+1) hj (by omega);simp only[Nat.add_sub_cancel]at h1;rcases vJ (Nat.le_of_lt_succ hij)with h2|rfl
  exact kH.lt_trans (ih (by omega) h2) (by omega);exact h1
end Go.Our
namespace Go.Sx
open Go
def KG:List Nat->vX->(vX->Prop)->Prop
 | [],_,K=>K []
 |i::is,O,K=>match u5 i O with
  |some h=>KG is O fun r=>K ((i,h)::r)
  |none=>KG is O K
def iU:vX->vX->(vX->Prop)->Prop
 | [],r,K=>K r
 |(i,h)::l,r,K=>iU l r fun r=>K ((i,h)::r)
theorem Ck:∀{ts:List Nat} {O:vX} {K:vX->Prop},KG ts O K->∃r,K r
 | [],O,K,h=>⟨_,h⟩
 |t::ts,O,K,h=>by
  simp only[KG]at h;split at h
  obtain⟨r,hr⟩:=Ck h;exact⟨_,hr⟩;exact Ck h
theorem MI:∀{l r:vX} {K:vX->Prop},iU l r K<->K (l++r)
 | [],r,K=>xF
 |(t,v)::l,r,K=>by simp only[iU,List.cons_append,MI]
theorem Yi{m es:Nat}{rs:List (List SV)}(h:Zj rs=true):Zh m (.rows es rs)=true:=by simp only[Zh,Z2 _ h]
theorem WO{m es:Nat}{σ:Nat->Nat}{rs:List (List SV)}(h:Zj rs=true):Zh m (um σ (.rows es rs))=true:=by rw[Zv _ (h:= .rows es rs) h];exact Yi h
section
variable {M:Mx}{fr:Fr}{O:vX}{nx:Nat}
theorem vZ.kj{body:Code}{Q:Post}(hT:uC M.P M.C.T)(ks ko:List Nat){X:Type}(P:X->Prop)(mJ:X->Fr)(Ox:X->vX)(n0:Nat)(J:X->Nat)(x0:X)(hP:P x0)
 (h:iP ks fr fun kF=>KG ko O fun O0=>(dL (mJ x0) kF fun fr'=>iU (Ox x0) O0 fun O'=>vU M fr O nx fr' O' n0)/\
   ∀x,P x->dL (mJ x) kF fun qV=>iU (Ox x) O0 fun O1=>run M body qV O1 n0 fun e fr O nx=>match e with
    | .normal=> ∃x',P x'/\J x'<J x/\dL (mJ x') kF fun fr'=>iU (Ox x') O0 fun O'=>vU M fr O nx fr' O' n0
    |e=>Q e fr O nx):vZ M body fr O nx Q:=by
 obtain⟨kF,h⟩:=DB h;obtain⟨O0,h1,h2⟩:=Ck h;simp only[DD,MI]at h1 h2;exact vZ.inv hT P (fun x=>(mJ x++kF,Ox x++O0,n0)) J x0 hP h1 h2
theorem vZ.w8{body:Code}{Q:Post}(i j es:Nat){row row':List SV}(hi:u5 i O=some (.box row))(hr:pY nx es j row=some row')(k:vZ M body fr ((nx, .rows es [])::uI i (.box row') O) (nx+1) Q):vZ M body fr O nx Q:=
 vZ.goes ⟨fun Y a w hm=>let⟨η',hp,H⟩:=hm.heap.w8 hi hr;⟨η',H,hm.size,hm.fK,hm.defers.mono hp,Ub hp hm.ro,fun t v ht=>(hm.frame t v ht).mono hp⟩⟩ k
end
end Go.Sx
