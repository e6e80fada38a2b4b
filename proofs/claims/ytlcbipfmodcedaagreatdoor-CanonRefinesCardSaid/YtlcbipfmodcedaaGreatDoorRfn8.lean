/- Part 8: SxDrawn, SxDrawnS, SxDrawnT, SxAuto3, CmpM, SetM, SetN, ListM, MapG, ApartM, IsoM, MapM, FreshM, BijM, SightM, RefM, PadM, Sort, SxRange, SortS, SetO, SxKeep. Conditions: as each part says. -/
import Derived.Lib.Bytealg
import Derived.Lib.Strings
import Derived.Lib.ItoaNum
import Derived.Shelf.SlSortCmp.NoneTotal
import Derived.RangeFuncNested
import Derived.Shelf.Sort.Plain
import Derived.Shelf.Slices.In.SortNone
import Derived.Test.YtlcbipfmodcedaaGreatDoorRfn4
import Derived.Test.YtlcbipfmodcedaaGreatDoorRfn7
set_option linter.unusedVariables false
set_option linter.unusedSimpArgs false
namespace Go.Sx
open Go
def Det(v:SV):Prop:=∀η u u',Den η v u->Den η v u'->u=u'
def DetL(vs:List SV):Prop:=∀η us us',DenL η vs us->DenL η vs us'->us=us'
mutual
def detV:SV->Bool
 | .bool _| .int _ _| .str _| .ptr _ _ _ _| .val _| .mp _| .yf _=>true
 | .dfs _=>false
 | .sl _ r _ _ _=>Nat.beq r 0
 | .agg cs=>Z4d cs
 | .tup vs=>Z4d vs
 | .ifc _ v=>detV v
 | .fn _ a b=>Z4d a&&Z4d b
 | .arr _ _=>false
 | .any=>false
 | .nb _=>false
def Z4d:List SV->Bool
 | []=>true
 |c::cs=>detV c&&Z4d cs
end
mutual
theorem Det.of:∀{v:SV},detV v=true->Det v
 | .bool _,_=>fun η u u' h h'=>by simp only[Den]at h h';rw[h,h']
 | .int _ _,_=>fun η u u' h h'=>by simp only[Den]at h h';rw[h,h']
 | .str _,_=>fun η u u' h h'=>by simp only[Den]at h h';rw[h,h']
 | .val _,_=>fun η u u' h h'=>by simp only[Den]at h h';rw[h.1,h'.1]
 | .mp b,_=>fun η u u' h h'=>by
   simp only[Den]at h h';obtain⟨e,h1,rfl⟩:=h;obtain⟨e',h2,rfl⟩:=h';rw[h1]at h2;injection h2 with h2;injection h2 with h2;rw[h2]
 | .ptr b r es c,_=>fun η u u' h h'=>by
   simp only[Den]at h h';obtain⟨e,h1,rfl⟩:=h;obtain⟨e',h2,rfl⟩:=h';rw[h1]at h2;injection h2 with h2;injection h2 with h2;rw[h2]
 | .sl b r es len lim,hd=>fun η u u' h h'=>by
   simp only[detV]at hd;have hd:=Zn hd;simp only[Den]at h h';rcases h with⟨h1,rfl,_⟩|⟨e,o,h1,rfl,_,_,h2⟩
   ·rcases h' with⟨h1',rfl,_⟩|⟨e',o',h1',rfl,_,_,h2'⟩
    ·rfl
    ·rw[h1]at h1';cases h1'
   ·rcases h' with⟨h1',rfl,_⟩|⟨e',o',h1',rfl,_,_,h2'⟩
    ·rw[h1]at h1';cases h1'
    ·rw[h1]at h1';injection h1' with h1';injection h1' with h1';subst h1'
     rw[h2 (.inr hd),h2' (.inr hd)]
 | .agg cs,hd=>fun η u u' h h'=>by
   simp only[detV]at hd;simp only[Den]at h h';obtain⟨us,rfl,h1,_⟩:=h;obtain⟨us',rfl,h2,_⟩:=h';rw[DetL.of hd η us us' h1 h2]
 | .tup cs,hd=>fun η u u' h h'=>by
   simp only[detV]at hd;simp only[Den]at h h';obtain⟨us,rfl,h1⟩:=h;obtain⟨us',rfl,h2⟩:=h';rw[DetL.of hd η us us' h1 h2]
 | .ifc t v,hd=>fun η u u' h h'=>by
   simp only[detV]at hd;simp only[Den]at h h';obtain⟨us,rfl,h1⟩:=h;obtain⟨us',rfl,h2⟩:=h';rw[Det.of hd η us us' h1 h2]
 | .fn f a b,hd=>fun η u u' h h'=>by
   simp only[detV,Bool.and_eq_true]at hd;simp only[Den]at h h';obtain⟨us,vs,rfl,h1,h3⟩:=h;obtain⟨us',vs',rfl,h2,h4⟩:=h';rw[DetL.of hd.1 η us us' h1 h2,DetL.of hd.2 η vs vs' h3 h4]
 | .arr _ _,hd=>by simp[detV]at hd
 | .any,hd=>by simp[detV]at hd
 | .nb _,hd=>by simp[detV]at hd
 | .dfs _,hd=>by simp[detV]at hd
 | .yf b,_=>fun η u u' h h'=>by
   simp only[Den]at h h';obtain⟨e,h1,rfl⟩:=h;obtain⟨e',h2,rfl⟩:=h';rw[h1]at h2;injection h2 with h2;injection h2 with h2;rw[h2]
theorem DetL.of:∀{vs:List SV},Z4d vs=true->DetL vs
 | [],_=>fun η us us' h h'=>by simp only[DenL]at h h';rw[h,h']
 |c::cs,hd=>fun η us us' h h'=>by
  simp only[Z4d,Bool.and_eq_true]at hd;simp only[DenL]at h h';obtain⟨u,r,rfl,h1,h2⟩:=h;obtain⟨u',r',rfl,h1',h2'⟩:=h';rw[Det.of hd.1 η u u' h1 h1',DetL.of hd.2 η r r' h2 h2']
end
def Wg:Hps->List (Blk×Hp)
 | []=>[]
 |(i,h)::r=>(.loc i,h)::Wg r
def Z4O(C:Cx)(O:Hps):Cx:=⟨C.T,C.N,Wg O++C.S,C.ro⟩
def Z3i(C:Cx):Cx:=⟨{C.T with globs:=[],gplain:=rfl},C.N,[],C.ro⟩
def shMx(M:Mx)(O:Hps)(η:Env)(w:World):Mx:=⟨M.P,Z4O M.C O,w,fun _=>False,η,none⟩
def blMx(M:Mx)(η:Env)(w:World):Mx:=⟨M.P,Z3i M.C,w,fun _=>False,η,none⟩
def Z5z:SV->Prop->Prop
 | .bool _,K| .int _ _,K| .str _,K| .ptr _ _ _ _,K| .val _,K=>K
 | .agg cs,K=>match Z4d cs with|true=>K|false=>NEED (Det (.agg cs)) K
 | .tup cs,K=>match Z4d cs with|true=>K|false=>NEED (Det (.tup cs)) K
 |v,K=>NEED (Det v) K
def ZaN(N:Nat)(C:Cx)(o:Oper)(fr:Fr)(nx:Nat)(K:SV->Prop):Prop:=
 match JZ N o.dst with
 |false=>STOP "slot"
 |true=>match o.op with
  | .move x=>match JX fr x with|some v=>K v|none=>STOP "operand"
  | .assign x=>match JX fr x with|some v=>K v|none=>STOP "operand"
  |op=>match Zfz op with
   |true=>STOP "writes"
   |false=>(opR C (JX fr) [] nx op).gv fun v=>Z5z v (K v)
structure ADD(M:Mx)(o:Oper)(fr:Fr)(O:Hps)(nx:Nat)(K:SV->Hps->Nat->Prop):Prop where
 mkH::
 hout:∀η w,HeapOK M η w O nx->Z2E (shMx M O η w) o (JX fr) [] nx fun v O2 nx=>K v (O2++O) nx
theorem ADD.mk{M:Mx}{o:Oper}{fr:Fr}{O:Hps}{nx:Nat}{K:SV->Hps->Nat->Prop}(h:∀η w,Z2E (shMx M O η w) o (JX fr) [] nx fun v O2 nx=>K v (O2++O) nx):ADD M o fr O nx K:=⟨fun η w _=>h η w⟩
def Zcp(M:Mx)(m:Nat)(o:Oper)(fr:Fr)(O:Hps)(nx:Nat)(K:SV->Hps->Nat->Prop):Prop:=
 match m with
 |0=>Z2E M o (JX fr) O nx K
 |1=>ZaN M.C.N (Z3i M.C) o fr nx fun v=>K v O nx
 |2=>ZaN M.C.N (Z4O M.C O) o fr nx fun v=>K v O nx
 |_=>ADD M o fr O nx K
inductive Plan where
 |nil
 |take (i m:Nat) (t:Plan)
 |fork (i mi j mj:Nat) (a b:Plan)
 |fork3 (i mi j mj k mk:Nat) (a b c:Plan)
 |join (t:Plan)
def Zu:List (Nat×Nat)->Plan
 | []=> .nil
 |(i,m)::r=> .take i m (Zu r)
def Plan.depth:Plan->Nat
 | .nil=>0
 | .take _ _ t=>t.depth+1
 | .fork _ _ _ _ a _=>a.depth+1
 | .fork3 _ _ _ _ _ _ a _ _=>a.depth+1
 | .join t=>t.depth
structure FORK(A B:Prop):Prop where
 a:A
 b:B
structure JOIN(A:Fr->Prop)(fr:Fr):Prop where
 out:∃fr',(∀t,lkp t fr'=lkp t fr)/\A fr'
theorem JOIN.go{A:Fr->Prop}{fr:Fr}(h:A fr):JOIN A fr:=⟨fr,fun _=>rfl,h⟩
theorem JOIN.ij{A:Fr->Prop}{fr:Fr}{a b c s:Nat}{x y z g:SV}(h:A ((b,y)::(c,z)::(a,x)::(s,g)::fr))(hd:(a≠s/\b≠s/\c≠s)/\a≠b/\a≠c/\b≠c):JOIN A ((b,y)::(s,g)::(c,z)::(s,g)::(a,x)::(s,g)::fr):=by
 refine⟨_,fun t=>?_,h⟩;obtain⟨⟨h1,h2,h3⟩,h4,h5,h6⟩:=hd;simp only[Z6];repeat' split
 all_goals first|rfl|(exfalso;omega)
theorem JOIN.ji{A:Fr->Prop}{fr:Fr}{a b c s:Nat}{x y z g:SV}(h:A ((b,y)::(c,z)::(a,x)::(s,g)::fr))(hd:(a≠s/\b≠s/\c≠s)/\a≠b/\a≠c/\b≠c):JOIN A ((c,z)::(s,g)::(a,x)::(s,g)::(b,y)::(s,g)::fr):=by
 refine⟨_,fun t=>?_,h⟩;obtain⟨⟨h1,h2,h3⟩,h4,h5,h6⟩:=hd;simp only[Z6];repeat' split
 all_goals first|rfl|(exfalso;omega)
def oneD(M:Mx)(ops:List Oper)(i m:Nat)(fr:Fr)(O:Hps)(nx:Nat)(K:Fr->Hps->Nat->Prop):Prop:=
 match nth ops i with
 |none=>STOP "order"
 |some o=>match o.guard with
  |none=>Zcp M m o fr O nx fun v O nx=>putK o.dst v fr fun fr=>K fr O nx
  |some (j,want)=>
   match UI ops j with
   |none=>STOP "guard"
   |some s=>match lkp s fr with
    |some (.bool b)=>IF b
     (fun J=>match want with
      |true=>Zcp M m o ((s, .bool true)::fr) O nx fun v O nx=>putK o.dst v ((s, .bool true)::fr) fun fr=>J fr O nx
      |false=>match JZ M.C.N o.dst with|true=>putK o.dst X8 ((s, .bool true)::fr) fun fr=>J fr O nx|false=>STOP "slot")
     (fun J=>match want with
      |false=>Zcp M m o ((s, .bool false)::fr) O nx fun v O nx=>putK o.dst v ((s, .bool false)::fr) fun fr=>J fr O nx
      |true=>match JZ M.C.N o.dst with|true=>putK o.dst X8 ((s, .bool false)::fr) fun fr=>J fr O nx|false=>STOP "slot")
     K
    |some (.tup [])=>match JZ M.C.N o.dst with|true=>putK o.dst X8 fr fun fr=>K fr O nx|false=>STOP "slot"
    |_=>STOP "guard"
def Ziq(M:Mx)(ops:List Oper)(i m:Nat)(_:Plan)(rest:RunT):RunT:=fun fr O nx K=>oneD M ops i m fr O nx fun fr O nx=>rest fr O nx K
def Zir(M:Mx)(ops:List Oper)(i mi j mj:Nat)(_ _:Plan)(a b:RunT):RunT:=fun fr O nx K=>FORK (oneD M ops i mi fr O nx fun fr O nx=>a fr O nx K) (oneD M ops j mj fr O nx fun fr O nx=>b fr O nx K)
def Zhz(M:Mx)(ops:List Oper)(i mi j mj k mk:Nat)(_ _ _:Plan)(a b c:RunT):RunT:=fun fr O nx K=>FORK (oneD M ops i mi fr O nx fun fr O nx=>a fr O nx K) (FORK (oneD M ops j mj fr O nx fun fr O nx=>b fr O nx K) (oneD M ops k mk fr O nx fun fr O nx=>c fr O nx K))
def Zis(_:Plan)(t:RunT):RunT:=fun fr O nx K=>JOIN (fun fr=>t fr O nx K) fr
noncomputable def runD (M:Mx)(ops:List Oper)(p:Plan):RunT:=Plan.rec (motive:=fun _=>RunT) Zfv (Ziq M ops) (Zir M ops) (Zhz M ops) Zis p
theorem FORK.skip{M:Mx}{ops:List Oper}{i mi j mj k mk:Nat}{p:Plan}{fr:Fr}{O:Hps}{nx:Nat}{K:Fr->Hps->Nat->Prop}(a b c s:Nat)
 (ha:runD M ops p ((b,X8)::(c,X8)::(a,X8)::(s, .bool false)::fr) O nx K->oneD M ops i mi fr O nx fun fr O nx=>runD M ops (.take k mk (.take j mj (.join p))) fr O nx K)
 (hb:runD M ops p ((b,X8)::(c,X8)::(a,X8)::(s, .bool false)::fr) O nx K->oneD M ops j mj fr O nx fun fr O nx=>runD M ops (.take i mi (.take k mk (.join p))) fr O nx K)
 (r:runD M ops p ((b,X8)::(c,X8)::(a,X8)::(s, .bool false)::fr) O nx K):
 FORK (oneD M ops i mi fr O nx fun fr O nx=>runD M ops (.take k mk (.take j mj (.join p))) fr O nx K) (oneD M ops j mj fr O nx fun fr O nx=>runD M ops (.take i mi (.take k mk (.join p))) fr O nx K):=⟨ha r,hb r⟩
theorem oneD.pass{M:Mx}{ops:List Oper}{i m:Nat}{fr:Fr}{O:Hps}{nx:Nat}{K:Fr->Hps->Nat->Prop}{o:Oper}{g s a:Nat}{e:Bool}
 (h1:nth ops i=some o) (h2:o.guard=some (g,true)) (h3:UI ops g=some s) (h4:lkp s fr=some (.bool e)) (he:e=false) (h5:o.dst=some a) (h6:Nat.blt a M.C.N=true)
 (h:K ((a,X8)::(s, .bool false)::fr) O nx):oneD M ops i m fr O nx K:=by
 subst he;unfold oneD;simp only[h1,h2,h3,h4,h5,JZ,h6,putK];exact IF.ff h
theorem FORK.pass{M:Mx}{ops:List Oper}{i mi j mj k mk:Nat}{p:Plan}{fr:Fr}{O:Hps}{nx:Nat}{K:Fr->Hps->Nat->Prop}(a b c s:Nat){oi oj ok:Oper}{gi gj gk:Nat}{e:Bool}
 (hi:nth ops i=some oi) (hj:nth ops j=some oj) (hk:nth ops k=some ok)
 (ei:oi.guard=some (gi,true)) (ej:oj.guard=some (gj,true)) (ek:ok.guard=some (gk,true))
 (si:UI ops gi=some s) (sj:UI ops gj=some s) (sk:UI ops gk=some s)
 (di:oi.dst=some a) (dj:oj.dst=some b) (dk:ok.dst=some c)
 (ni:Nat.blt a M.C.N=true) (nj:Nat.blt b M.C.N=true) (nk:Nat.blt c M.C.N=true)
 (hf:lkp s fr=some (.bool e)) (he:e=false)
 (hd:(a≠s/\b≠s/\c≠s)/\a≠b/\a≠c/\b≠c)
 (r:runD M ops p ((b,X8)::(c,X8)::(a,X8)::(s, .bool false)::fr) O nx K):
 FORK (oneD M ops i mi fr O nx fun fr O nx=>runD M ops (.take k mk (.take j mj (.join p))) fr O nx K) (oneD M ops j mj fr O nx fun fr O nx=>runD M ops (.take i mi (.take k mk (.join p))) fr O nx K):=by
 have l1:∀{v:SV} {t:Nat},t≠s->lkp s ((t,v)::(s, .bool false)::fr)=some (.bool false):=fun h=>by
  rw[Z6,if_neg (fun h'=>h h'.symm),Z6,if_pos rfl]
 obtain⟨⟨a1,a2,a3⟩,hd2⟩:=id hd
 have l2:∀{v w:SV} {t u:Nat},t≠s->u≠s->lkp s ((t,v)::(s, .bool false)::(u,w)::(s, .bool false)::fr)=some (.bool false):=fun h _=>by
  rw[Z6,if_neg (fun h'=>h h'.symm),Z6,if_pos rfl]
 constructor
 ·refine oneD.pass hi ei si hf he di ni ?_;show oneD M ops k mk _ O nx fun fr O nx=>runD M ops (.take j mj (.join p)) fr O nx K
  refine oneD.pass hk ek sk (l1 a1) rfl dk nk ?_;show oneD M ops j mj _ O nx fun fr O nx=>runD M ops (.join p) fr O nx K
  refine oneD.pass hj ej sj (l2 a3 a1) rfl dj nj ?_;exact JOIN.ij r hd
 ·refine oneD.pass hj ej sj hf he dj nj ?_;show oneD M ops i mi _ O nx fun fr O nx=>runD M ops (.take k mk (.join p)) fr O nx K
  refine oneD.pass hi ei si (l1 a2) rfl di ni ?_;show oneD M ops k mk _ O nx fun fr O nx=>runD M ops (.join p) fr O nx K
  refine oneD.pass hk ek sk (l2 a1 a2) rfl dk nk ?_;exact JOIN.ji r hd
def VU(acc:List Nat)(o:Oper):Nat:=o.after.foldl (fun s e=>if Region.binds .any e then s|||2^e.on|||acc.getD e.on 0 else s) 0
def Z23:List Oper->List Nat->List Nat
 | [],acc=>acc
 |o::r,acc=>Z23 r (acc++ [VU acc o])
def Z3j(i:Nat):Nat->List Nat->List Nat
 |0,l=>i::l
 |_,l=>l
def Z1M(m:Nat):Bool:=m==0||m==3
def ZB:Plan->List Nat
 | .nil=>[]
 | .take i 0 t=>i::ZB t
 | .take _ _ t=>ZB t
 | .fork i mi j mj a b=>Z3j i mi (Z3j j mj (ZB a++ZB b))
 | .fork3 i mi j mj k mk a b c=>Z3j i mi (Z3j j mj (Z3j k mk (ZB a++(ZB b++ZB c))))
 | .join t=>ZB t
def Jk(ops:Array Oper)(ms:List Nat):Plan->Array Bool->Bool
 | .nil,l=>(Region.ready .any ops l).isEmpty
 | .take i m rest,l=>
   (match m with
    |0=>Region.ready .any ops l==[i]
    |1=>(Region.ready .any ops l).contains i&&Region.free .any ops l i&& (ZB rest).all (fun k=>k !=i)
    |2=>(Region.ready .any ops l).contains i&&Region.free .any ops l i&& (ZB rest).all (fun k=>k !=i&& (ms.getD k 0).testBit i)
    |_=>Region.ready .any ops l==[i])&&
   Jk ops ms rest (l.setIfInBounds i true)
 | .fork i mi j mj a b,l=>Region.ready .any ops l==[i,j]&&Z1M mi&&Z1M mj&&a.depth==b.depth&&Jk ops ms a (l.setIfInBounds i true)&&Jk ops ms b (l.setIfInBounds j true)
 | .fork3 i mi j mj k mk a b c,l=>Region.ready .any ops l==[i,j,k]&&Z1M mi&&Z1M mj&&Z1M mk&&a.depth==b.depth&&a.depth==c.depth&&Jk ops ms a (l.setIfInBounds i true)&&Jk ops ms b (l.setIfInBounds j true)&&Jk ops ms c (l.setIfInBounds k true)
 | .join t,l=>Jk ops ms t l
def Zcq(ops:Array Oper)(steps:Plan):Bool:=
 Region.noSelect ops&&steps.depth==ops.size&&Jk ops (Z23 ops.toList []) steps (Array.replicate ops.size false)
end Go.Sx
namespace Go.Sx
open Go
theorem Z4P:∀(os:List Oper) (acc:List Nat),(Z23 os acc).take acc.length=acc/\∀j o,os[j]?=some o->(Z23 os acc)[acc.length+j]?=some (VU ((Z23 os acc).take (acc.length+j)) o)
 | [],acc=>⟨by simp[Z23],fun j o h=>by simp at h⟩
 |o::os,acc=>by
  simp only[Z23];obtain⟨h1,h2⟩:=Z4P os (acc++ [VU acc o]);simp only[List.length_append,List.length_singleton]at h1 h2
  have h0:(Z23 os (acc++ [VU acc o])).take acc.length=acc:=by
   have:=congrArg (List.take acc.length) h1;rw[List.take_take]at this;simpa using this
  refine⟨h0,fun j o' hj=>?_⟩;cases j with
  |zero=>
   simp at hj;subst hj;rw[Nat.add_zero,h0];have:=congrArg (fun l:List Nat=>l[acc.length]?) h1;simpa[List.getElem?_take]using this
  |succ j=>
   have:=h2 j o' (by simpa using hj);rw[show acc.length+(j+1)=acc.length+1+j by omega];exact this
theorem Z4e{acc:List Nat}{o:Oper}{i:Nat}(h:(VU acc o).testBit i=true):∃e∈o.after,Region.binds .any e=true/\(e.on=i\/(acc.getD e.on 0).testBit i=true):=by
 unfold VU at h;rw[<-Array.foldl_toList]at h
 have key:∀(es:List Edge) (s:Nat),(es.foldl (fun s e=>if Region.binds .any e then s|||2^e.on|||acc.getD e.on 0 else s) s).testBit i=true->
  s.testBit i=true\/∃e∈es,Region.binds .any e=true/\(e.on=i\/(acc.getD e.on 0).testBit i=true):=by
  intro es
  induction es with
  |nil=>intro s h;exact .inl h
  |cons e es ih=>
   intro s h;simp only[List.foldl_cons]at h;rcases ih _ h with h|⟨e',he',h⟩
   ·split at h
    ·rename_i hb;simp only[Nat.testBit_or,Bool.or_eq_true]at h;rcases h with(h|h)|h
     ·exact .inl h
     ·refine .inr ⟨e,List.mem_cons_self ..,hb, .inl ?_⟩;rw[Nat.testBit_two_pow]at h;simpa using h
     ·exact .inr ⟨e,List.mem_cons_self ..,hb, .inr h⟩
    ·exact .inl h
   ·exact .inr ⟨e',List.mem_cons_of_mem _ he',h⟩
 rcases key _ _ h with h|⟨e,he,h⟩
 ·simp at h
 ·exact⟨e,by simpa using he,h⟩
theorem Z6U{ops:Array Oper}{l:Array Bool}(hc:Closed .any ops l){i:Nat}:∀(k:Nat),((Z23 ops.toList []).getD k 0).testBit i=true->l.getD k false=true->l.getD i false=true:=by
 intro k
 induction k using Nat.strongRecOn with
 |_ k ih=>
  intro h hk;cases hg:(Z23 ops.toList [])[k]? with
  |none=>rw[List.getD_eq_getElem?_getD,hg]at h;simp at h
  |some m=>
   have hlt:k<ops.size:=by
    rcases Nat.lt_or_ge k ops.size with h'|h'
    ·exact h'
    ·rw[<-hc.1]at h';simp[Array.getElem?_eq_none h']at hk
   have ho:ops[k]?=some ops[k]:=Array.getElem?_eq_getElem hlt;have hm:=(Z4P ops.toList []).2 k ops[k] (by simp);simp only[List.length_nil,Nat.zero_add]at hm;rw[List.getD_eq_getElem?_getD,hm,Option.getD_some]at h;obtain⟨e,he,hb,h⟩:=Z4e h;have hon:=hc.2 k _ ho hk e he hb;rcases h with rfl|h
   ·exact hon
   ·rw[List.getD_eq_getElem?_getD,List.getElem?_take]at h;split at h
    ·rename_i hlt';exact ih e.on hlt' (by rw[List.getD_eq_getElem?_getD];exact h) hon
    ·simp at h
def agree(w w':World):Prop:=∀k,k<w.heap.size->w'.heap[k]?=w.heap[k]?
theorem agree.refl(w:World):agree w w:=fun _ _=>rfl
theorem agree.trans{a b c:World}(h:agree a b)(k:agree b c):agree a c:=fun n hn=>by
 have h1:=h n hn
 have hlt:n<b.heap.size:=by
  rw[Array.getElem?_eq_getElem hn]at h1;exact(Array.getElem?_eq_some_iff.1 h1).1
 rw[k n hlt,h1]
section
variable {M:Mx}{η:Env}{w:World}{O:Hps}{nx:Nat}
theorem Z06{C:Cx}:∀{O:Hps} {j:Nat},lkpB (.loc j) (Wg O++C.S)=Yp C O (.loc j)
 | [],j=>by simp[Wg,Yp,lkp]
 |(i,h)::r,j=>by
  have ih:=Z06 (C:=C) (O:=r) (j:=j);simp only[Wg,List.cons_append,lkpB,WU,Yp,lkp];cases e:Nat.beq j i
  ·simp only[e];rw[ih];rfl
  ·simp only[e]
theorem Z15{C:Cx}{O:Hps}{b:Blk}:lkS (Z4O C O) b=Yp C O b:=by
 cases b with
 |glob g=>rfl
 |loc j=>exact Z06
theorem HeapOK.read(H:HeapOK M η w O nx){w':World}(hag:agree w w'):HeapOK (shMx M O η w') η w' [] nx:=by
 refine⟨List.prefix_rfl,H.len,⟨fun i h hi=>by simp[lkp]at hi,fun i j h h' n hi=>by simp[lkp]at hi⟩,FrW.refl _ _,fun b h hb=>?_⟩;have hb':Yp M.C O b=some h:=by rw[<-Z15];exact hb
 have hsat:=H.look hb';have hag':∀k,feet η w b h k->w'.heap[k]?=w.heap[k]?:=fun k f=>hag _ (hsat.feet_lt f);have hs':=hsat.keep hag';exact⟨hs',fun k f=>⟨hs'.feet_lt f,fun h=>h⟩⟩
theorem HeapOK.blind(hl:η.length=nx)(w:World):HeapOK (blMx M η w) η w [] nx:=
 ⟨List.prefix_rfl,hl,⟨fun i h hi=>by simp[lkp]at hi,fun i j h h' n hi=>by simp[lkp]at hi⟩,FrW.refl _ _,fun b h hb=>by cases b<;>simp[blMx,Z3i,lkS,lkpB,lkp]at hb⟩
theorem HeapOK.join(H:HeapOK M η w O nx){η':Env}{w':World}{O2:Hps}{nx2:Nat}(H2:HeapOK (shMx M O η w) η' w' O2 nx2):HeapOK M η' w' (O2++O) nx2/\agree w w':=by
 have hag:agree w w':=fun k hk=>H2.fr.block k hk (fun h=>h);have hp:η<+:η':=H2.pre
 have old:∀{i:Nat} {h:Hp},lkp i O=some h->HpSat η' w' true (.loc i) h/\∀k,feet η' w' (.loc i) h k->feet η w (.loc i) h k/\k<w.heap.size:=by
  intro i h hi;obtain⟨hsat,hF⟩:=H.own.1 i h hi;have hk:∀k,feet η w (.loc i) h k->w'.heap[k]?=w.heap[k]?:=fun k f=>hag _ (hsat.feet_lt f);refine⟨(hsat.keep (w':=w') hk).mono hp,fun k f=>?_⟩;have f':=H.stands hp hi hk f;exact⟨f',hsat.feet_lt f'⟩
 refine⟨⟨H.pre.trans hp,H2.len,⟨fun i h hi=>?_,fun i j h h' k hi hj hij f f'=>?_⟩,H.fr.trans H2.fr (fun n hn=>hn.elim),H.sok⟩,hag⟩
 ·rcases Jf hi with hi|⟨_,hi⟩
  ·obtain⟨h1,h2⟩:=H2.own.1 i h hi;refine⟨h1,fun k f=> .inr ?_⟩;rcases h2 k f with h3|h3
   ·exact h3.elim
   ·exact Nat.le_trans H.fr.size h3
  ·obtain⟨h1,h2⟩:=old hi;exact⟨h1,fun k f=>(H.own.1 i h hi).2 k (h2 k f).1⟩
 ·rcases Jf hi with hi|⟨_,hi⟩
  ·rcases Jf hj with hj|⟨_,hj⟩
   ·exact H2.own.2 i j h h' k hi hj hij f f'
   ·have h1:=((old hj).2 k f').2;rcases(H2.own.1 i h hi).2 k f with h3|h3
    ·exact h3.elim
    ·have h3:w.heap.size<=k:=h3;omega
  ·rcases Jf hj with hj|⟨_,hj⟩
   ·have h1:=((old hi).2 k f).2;rcases(H2.own.1 j h' hj).2 k f' with h3|h3
    ·exact h3.elim
    ·have h3:w.heap.size<=k:=h3;omega
   ·exact H.own.2 i j h h' k hi hj hij ((old hi).2 k f).1 ((old hj).2 k f').1
theorem Z8u{v:SV}{K:Prop}(h:Z5z v K):Det v/\K:=by
 cases v with
 |agg cs=>
  simp only[Z5z]at h;split at h
  ·rename_i e;exact⟨Det.of (by simpa only[detV]using e),h⟩
  ·exact⟨h.p,h.k⟩
 |tup cs=>
  simp only[Z5z]at h;split at h
  ·rename_i e;exact⟨Det.of (by simpa only[detV]using e),h⟩
  ·exact⟨h.p,h.k⟩
 |_=>first|exact⟨h.p,h.k⟩|exact⟨Det.of rfl,h⟩
theorem Z1N{P:Program}{C':Cx}(hT:TabOK P C'.T){N:World->Prop}{o:Oper}{a:Act}{fr:Fr}{nx N0:Nat}{K:SV->Prop}(hf:FrOK η a fr)
 (hN:∀w',N w'->HeapOK ⟨P,C',w',fun _=>False,η,none⟩ η w' [] nx) (hw:N w) (h:ZaN N0 C' o fr nx K):
 JZ N0 o.dst=true/\∃u v,(∀w',N w'->(execOp a.eval o).run P w'= .ok (.value u) w'\/((execOp a.eval o).run P w'= .ok .skip w'/\u=undef))/\Den η v u/\K v:=by
 unfold ZaN at h;split at h
 ·exact h.out.elim
 rename_i hd;refine⟨hd,?_⟩;split at h
 ·rename_i x ho;split at h
  case h_2=>exact h.out.elim
  rename_i v hv;exact⟨a.eval x,v,fun w' _=> .inl (by simp[execOp,ho]),Yx hf hv,h⟩
 ·rename_i x ho;split at h
  case h_2=>exact h.out.elim
  rename_i v hv;exact⟨a.eval x,v,fun w' _=> .inl (by simp[execOp,ho]),Yx hf hv,h⟩
 ·split at h
  ·exact h.out.elim
  rename_i hst;obtain⟨v,hok,h⟩:=Res.gv_ok h;obtain⟨hdet,h⟩:=Z8u h
  have one:∀w',N w'->∃u,((execOp a.eval o).run P w'= .ok (.value u) w'\/((execOp a.eval o).run P w'= .ok .skip w'/\u=undef))/\Den η v u:=by
   intro w' hw';have H:=hN w' hw';obtain⟨u,w'',η'',h1,h2,h3,h4,h5⟩:=Z5t (M:=⟨P,C',w',fun _=>False,η,none⟩) (w:=w') (ρ:=a.eval) ⟨H,hT,fun x sv hx=>Yx hf hx⟩ o (hok [] nx);have he:η''=η:=(h2.eq_of_length (by rw[H.len,h3.len])).symm;subst he;have hww:=h5 hst rfl;subst hww;exact⟨u,h1,h4⟩
  obtain⟨u,h1,h2⟩:=one w hw;refine⟨u,v,fun w' hw'=>?_,h2,h⟩;obtain⟨u',h3,h4⟩:=one w' hw';rw[hdet η u u' h2 h4];exact h3
end
def SS(ks:List Nat)(wc:World)(l:Array Bool)(w:World):Prop:=(∀k∈ks,l.getD k false=false)->agree wc w
section
variable {M:Mx}{ops:Array Oper}{Q:Exit->Act->World->Prop}
theorem XZ{i m:Nat}{rest:Plan}(h:m≠0):ZB (.take i m rest)=ZB rest:=by
 cases m with
 |zero=>exact(h rfl).elim
 |succ m=>rfl
theorem Z6V{i:Nat}{rest:Plan}:ZB (.take i 0 rest)=i::ZB rest:=rfl
theorem Z0s{l:Array Bool}{i:Nat}(h:l.getD i true=false):l.getD i false=false:=by
 rcases Nat.lt_or_ge i l.size with h'|h'
 ·simp[h']at h⊢;exact h
 ·simp[Array.getElem?_eq_none h']at h
theorem Wh{η:Env}{fr:Fr}{O:Hps}{nx:Nat}{a:Act}{w:World}(hm:Models M η fr O nx a w){o:Oper}(hd:JZ M.C.N o.dst=true){u:Value}{v:SV}(hv:Den η v u){Kp:Fr->Prop}(hk:putK o.dst v fr Kp):
 ∃fr',Kp fr'/\Models M η fr' O nx (a.put o.dst u) w:=hm.put hd List.prefix_rfl hm.heap hv hk
theorem Ue(hQ:∀c a w, ¬Q (.panic c) a w)(hs:Region.noSelect ops=true){i n:Nat}{o:Oper}{l:Array Bool}{ks:List Nat}(ho:ops[i]?=some o)(hready:i∈Region.ready .any ops l)(hfree:Region.free .any ops l i=true)(hne:∀k∈ks,k≠i)(hc:Closed .any ops l)
 {N:World->Prop} {wc:World} (hN:∀l w,Closed .any ops l->l.getD i true=false->SS ks wc l w->N w) {a:Act} {w:World} {u:Value} (hy:YieldsN M.P ops N o u a) (hag:agree wc w)
 (h:wpH M.fence M.P .any ops Q (SS ks wc) n (l.setIfInBounds i true) (a.put o.dst u) w):wpH M.fence M.P .any ops Q (SS ks wc) (n+1) l a w:=by
 refine Zco M.all ho (Region.noSelect_spec hs) (fun c a w hq=>(hQ _ _ _ hq).elim) hN (fun l' w' hc' hun hr hS hk=>hS fun k hk'=>?_) n l a w hc (Region.free_spec ho hfree) hready hy (fun _=>hag) (fun _=>hag) h;rw[getD_set_ne false (Ne.symm (hne k hk'))];exact hk k hk'
theorem HeapOK.drawn{η:Env}{w:World}{O:Hps}{nx:Nat}(H:HeapOK M η w O nx){n:Nat}(hn:w.drawn<=n):HeapOK M η {w with drawn:=n} O nx:=
 ⟨H.pre,H.len,H.own.still rfl,⟨H.fr.os,H.fr.tape,H.fr.output,Nat.le_trans H.fr.drawn hn,H.fr.size,H.fr.block⟩,H.sok⟩
theorem Z6W{m:Nat}(h:Z1M m=true):m=0\/m=3:=by
 unfold Z1M at h;simpa using h
theorem ZJ{i m:Nat}{l:List Nat}{x:Nat}(h:x∈l):x∈Z3j i m l:=by
 cases m with
 |zero=>exact List.mem_cons_of_mem _ h
 |succ m=>exact h
theorem V6{i:Nat}{l:List Nat}:i∈Z3j i 0 l:=List.mem_cons_self ..
theorem Zge(hT:TabOK M.P M.C.T){i m:Nat}(hmode:m=0\/m=3){fr:Fr}{O:Hps}{nx:Nat}{Kn:Fr->Hps->Nat->Prop}(h:oneD M ops.toList i m fr O nx Kn){η:Env}{a:Act}{w:World}(hm:Models M η fr O nx a w){R:Act->World->Prop}
 (hR:∀{fr:Fr} {O:Hps} {nx:Nat} {η:Env} {a:Act} {w':World},Kn fr O nx->Models M η fr O nx a w'->(m=3->agree w w')->R a w'):wpOpIn M.fence 0 M.P ops Q i R a w:=by
 unfold oneD at h;split at h
 ·exact h.out.elim
 rename_i o ho;have ho:ops[i]?=some o:=by rw[VD]at ho;simpa using ho
 have skip:∀{fr':Fr},Models M η fr' O nx a w->Region.wanted o (yielded ops a.tmps)≠true->(match JZ M.C.N o.dst with|true=>putK o.dst X8 fr' fun fr=>Kn fr O nx|false=>STOP "slot")->wpOpIn M.fence 0 M.P ops Q i R a w:=by
  intro fr' hm' hw h;split at h
  case h_2=>exact h.out.elim
  rename_i hd;obtain⟨fr2,h1,h2⟩:=Wh hm' hd (V3 η) h;unfold wpOpIn;simp only[ho];rw[if_neg hw];exact⟨fun f _=>M.all f,hR h1 h2 fun _=>agree.refl w⟩
 have go:∀{fr':Fr},Models M η fr' O nx a w->Region.wanted o (yielded ops a.tmps)=true->(Zcp M m o fr' O nx fun v O nx=>putK o.dst v fr' fun fr=>Kn fr O nx)->wpOpIn M.fence 0 M.P ops Q i R a w:=by
  intro fr' hm' hw h;unfold wpOpIn;simp only[ho];rw[if_pos hw];rcases hmode with rfl|rfl
  ·have h:Z2E M o (JX fr') O nx fun v O nx=>putK o.dst v fr' fun fr=>Kn fr O nx:=h;refine(Vq hT hm' (fun x sv hx=>Yx hm'.frame hx) h fun u v O' nx' η' w' hd hp hH hv hk=>?_);obtain⟨fr2,h1,h2⟩:=hm'.put hd hp hH hv hk;exact hR h1 h2 fun h=>by cases h
  ·have h:ADD M o fr' O nx fun v O nx=>putK o.dst v fr' fun fr=>Kn fr O nx:=h;have hm2:Models (shMx M O η w) η fr' [] nx a w:=⟨hm'.heap.read (agree.refl w),hm'.size,hm'.nds,hm'.defers,hm'.ro,hm'.frame⟩;refine(Vq (M:=shMx M O η w) hT hm2 (fun x sv hx=>Yx hm'.frame hx) (h.hout η w hm'.heap) fun u v O2 nx2 η' w' hd hp hH hv hk=>?_);obtain⟨hJ,hag2⟩:=hm'.heap.join hH;obtain⟨fr2,h1,h2⟩:=hm'.put hd hp hJ hv hk;exact hR h1 h2 fun _=>hag2
 split at h
 ·rename_i hg;exact go hm (U9 hg) h
 ·rename_i j want hg;split at h
  ·exact h.out.elim
  rename_i s hsl;split at h
  ·rename_i b hb;have hbv:=X5 (hm.frame s _ hb);have hy:=We hsl hbv;cases b with
   |true=>
    have h:=h.t rfl;have hm':Models M η ((s, .bool true)::fr) O nx a w:=hm.know hb rfl rfl hbv;cases want with
    |true=>exact go hm' ((ZC hg).2 hy) h
    |false=>exact skip hm' (fun hw=>by rw[ZC hg,hy]at hw;cases hw) h
   |false=>
    have h:=h.f rfl;have hm':Models M η ((s, .bool false)::fr) O nx a w:=hm.know hb rfl rfl hbv;cases want with
    |false=>exact go hm' ((ZC hg).2 hy) h
    |true=>exact skip hm' (fun hw=>by rw[ZC hg,hy]at hw;cases hw) h
  ·rename_i hb;have hbv:=hm.frame s _ hb;simp only[Den,DenL]at hbv;obtain⟨vs,hbv,rfl⟩:=hbv;exact skip hm (fun hw=>by rw[ZC hg]at hw;exact U8 hsl (by rw[hbv];simp) hw) h
  ·exact h.out.elim
theorem arm(hT:TabOK M.P M.C.T){fk t:Plan}{d:Nat}{fr:Fr}{O:Hps}{nx:Nat}{K:Fr->Hps->Nat->Prop}{η:Env}{a:Act}{w wc:World}{l:Array Bool}(hm:Models M η fr O nx a w)(hag:agree wc w)(hc:Closed .any ops l)
 {x m:Nat} (hmo:Z1M m=true) (hx:x∈Region.ready .any ops l) (hxk:m=0->x∈ZB fk) (hsub:∀k∈ZB t,k∈ZB fk) (hd:t.depth=d)
 (ih:∀{fr:Fr} {O:Hps} {nx:Nat} {η:Env} {a:Act} {w wc:World},runD M ops.toList t fr O nx K->Models M η fr O nx a w->agree wc w->wpH M.fence M.P .any ops Q (SS (ZB t) wc) t.depth (l.setIfInBounds x true) a w)
 (hrun:oneD M ops.toList x m fr O nx fun fr O nx=>runD M ops.toList t fr O nx K):
 wpOpIn M.fence 0 M.P ops Q x (fun a' w'=>SS (ZB fk) wc (l.setIfInBounds x true) w'/\wpH M.fence M.P .any ops Q (SS (ZB fk) wc) d (l.setIfInBounds x true) a' w') a w:=by
 have hin:x<l.size:=by
  obtain⟨h1,o,ho,_⟩:=mem_ready.1 hx;rw[hc.1];exact(Array.getElem?_eq_some_iff.1 ho).1
 have hset:(l.setIfInBounds x true).getD x false=true:=by simp[hin]
 refine Zge hT (Z6W hmo) hrun hm fun{fr O nx η a w'} hk hm' hag'=>?_;rcases Z6W hmo with h0|h3
 ·have hno:∀l' w',Grows (l.setIfInBounds x true) l'->SS (ZB fk) wc l' w':=by
   intro l' w' hg hk;have h1:=hk x (hxk h0);rw[hg x hset]at h1;cases h1
  refine⟨hno _ _ (fun _ h=>h),?_⟩;have:=ih hk hm' (agree.refl _);rw[hd]at this;exact Z0r (l0:=l.setIfInBounds x true) (fun l' w' hg _=>hno l' w' hg) _ _ _ _ (fun _ h=>h) this
 ·have hag2:agree wc w':=hag.trans (hag' h3);refine⟨fun _=>hag2,?_⟩;have:=ih hk hm' hag2;rw[hd]at this;exact Z0r (l0:=l.setIfInBounds x true) (fun l' w'' hg hS hk=>hS fun k hkt=>hk k (hsub k hkt)) _ _ _ _ (fun _ h=>h) this
theorem XN(hT:TabOK M.P M.C.T)(hQ:∀c a w, ¬Q (.panic c) a w)(hs:Region.noSelect ops=true):∀(steps:Plan) {fr:Fr} {O:Hps} {nx:Nat} {K:Fr->Hps->Nat->Prop},runD M ops.toList steps fr O nx K->
 ∀{l:Array Bool},Jk ops (Z23 ops.toList []) steps l=true->Closed .any ops l->∀{η:Env} {a:Act} {w:World},Models M η fr O nx a w->(∀η fr O nx a w,Models M η fr O nx a w->K fr O nx->Q .normal a w)->
 ∀{wc:World},agree wc w->wpH M.fence M.P .any ops Q (SS (ZB steps) wc) steps.depth l a w
 | .nil,fr,O,nx,K,h,l,hl,hc,η,a,w,hm,hq,wc,hag=>by
   simp only[Jk,List.isEmpty_iff]at hl;exact⟨hl,hq η fr O nx a w hm h⟩
 | .take i m rest,fr,O,nx,K,h,l,hl,hc,η,a,w,hm,hq,wc,hag=>by
   have IH:= @XN hT hQ hs rest
   replace h:oneD M ops.toList i m fr O nx (fun fr O nx=>runD M ops.toList rest fr O nx K):=h
   unfold oneD at h;split at h
   ·exact h.out.elim
   rename_i o ho;have ho:ops[i]?=some o:=by rw[VD]at ho;simpa using ho
   simp only[Jk,Bool.and_eq_true]at hl;obtain⟨hl1,hl2⟩:=hl
   have hready:i∈Region.ready .any ops l:=by
    revert hl1;split<;>intro hl1
    ·rw[beq_iff_eq.1 hl1];exact List.mem_singleton.2 rfl
    ·simp only[Bool.and_eq_true]at hl1;simpa using hl1.1.1
    ·simp only[Bool.and_eq_true]at hl1;simpa using hl1.1.1
    ·rw[beq_iff_eq.1 hl1];exact List.mem_singleton.2 rfl
   have hc':=hc.set hready;have hin:i<l.size:=by rw[hc.1];exact(Array.getElem?_eq_some_iff.1 ho).1
   have hset:(l.setIfInBounds i true).getD i false=true:=by simp[hin]
   have modes:∀{p:Prop},(m=0->p)->(m=1->p)->(m=2->p)->(3<=m->p)->p:=by
    intro p h0 h1 h2 h3
    match m,h0,h1,h2,h3 with
    |0,h0,_,_,_=>exact h0 rfl
    |1,_,h1,_,_=>exact h1 rfl
    |2,_,_,h2,_=>exact h2 rfl
    |m+3,_,_,_,h3=>exact h3 (by omega)
   have alone:Region.ready .any ops l=[i]->∀{a:Act} {w:World},agree wc w->wpOpIn M.fence 0 M.P ops Q i (fun a' w'=>SS (ZB (.take i m rest)) wc (l.setIfInBounds i true) w'/\wpH M.fence M.P .any ops Q (SS (ZB (.take i m rest)) wc) rest.depth (l.setIfInBounds i true) a' w') a w->
    wpH M.fence M.P .any ops Q (SS (ZB (.take i m rest)) wc) (Plan.take i m rest).depth l a w:=fun hr a w hag h=>Zgd hr h
   have afterKill:m=0->∀{fr:Fr} {O:Hps} {nx:Nat} {η:Env} {a:Act} {w:World},runD M ops.toList rest fr O nx K->Models M η fr O nx a w->
    SS (ZB (.take i m rest)) wc (l.setIfInBounds i true) w/\wpH M.fence M.P .any ops Q (SS (ZB (.take i m rest)) wc) rest.depth (l.setIfInBounds i true) a w:=by
    intro h0 fr O nx η a w hrun hm;subst h0;rw[Z6V]
    have hno:∀l' w',Grows (l.setIfInBounds i true) l'->SS (i::ZB rest) wc l' w':=by
     intro l' w' hg hk;have h1:=hk i (List.mem_cons_self ..);rw[hg i hset]at h1;cases h1
    exact⟨hno _ _ (fun _ h=>h),Z0r (l0:=l.setIfInBounds i true) (fun l' w' hg _=>hno l' w' hg) _ _ _ _ (fun _ h=>h) (IH hrun hl2 hc' hm hq (agree.refl w))⟩
   have afterElse:m≠0->∀{fr:Fr} {O:Hps} {nx:Nat} {η:Env} {a:Act} {w:World},runD M ops.toList rest fr O nx K->Models M η fr O nx a w->agree wc w->
    SS (ZB (.take i m rest)) wc (l.setIfInBounds i true) w/\wpH M.fence M.P .any ops Q (SS (ZB (.take i m rest)) wc) rest.depth (l.setIfInBounds i true) a w:=by
    intro h0 fr O nx η a w hrun hm hag;rw[XZ h0];exact⟨fun _=>hag,IH hrun hl2 hc' hm hq hag⟩
   have quiet1:m=1->Region.free .any ops l i=true/\∀k∈ZB rest,k≠i:=by
    intro h1;subst h1;simp only[Bool.and_eq_true,List.all_eq_true,bne_iff_ne]at hl1;exact⟨hl1.1.2,hl1.2⟩
   have quiet2:m=2->Region.free .any ops l i=true/\∀k∈ZB rest,k≠i/\((Z23 ops.toList []).getD k 0).testBit i=true:=by
    intro h1;subst h1;simp only[Bool.and_eq_true,List.all_eq_true,bne_iff_ne]at hl1;exact⟨hl1.1.2,hl1.2⟩
   have alone0:m=0->Region.ready .any ops l=[i]:=by intro h1;subst h1;exact beq_iff_eq.1 hl1
   have alone3:3<=m->Region.ready .any ops l=[i]:=by
    intro h1
    match m,h1,hl1 with
    |m+3,_,hl1=>exact beq_iff_eq.1 hl1
   have skip:∀{fr':Fr},Models M η fr' O nx a w->Region.wanted o (yielded ops a.tmps)≠true->(match JZ M.C.N o.dst with|true=>putK o.dst X8 fr' fun fr=>runD M ops.toList rest fr O nx K|false=>STOP "slot")->
    wpH M.fence M.P .any ops Q (SS (ZB (.take i m rest)) wc) (Plan.take i m rest).depth l a w:=by
    intro fr' hm' hw h;split at h
    case h_2=>exact h.out.elim
    rename_i hd;obtain⟨fr2,h1,h2⟩:=Wh hm' hd (V3 η) h;have hwf:Region.wanted o (yielded ops a.tmps)=false:=by simpa using hw
    have op:∀{K':Act->World->Prop},K' (a.put o.dst undef) w->wpOpIn M.fence 0 M.P ops Q i K' a w:=by
     intro K' hk;unfold wpOpIn;simp only[ho];rw[if_neg hw];exact⟨fun f _=>M.all f,hk⟩
    refine modes (fun h0=>alone (alone0 h0) hag (op (afterKill h0 h1 h2))) (fun h0=>?_) (fun h0=>?_) (fun h0=>alone (alone3 h0) hag (op (afterElse (by omega) h1 h2 hag)))
    ·have hn:m≠0:=by omega
     have:=(afterElse hn h1 h2 hag).2;rw[XZ hn]at this⊢;exact Ue hQ hs ho hready (quiet1 h0).1 (quiet1 h0).2 hc (N:=fun _=>True) (fun _ _ _ _ _=>trivial) (.inr ⟨hwf,rfl⟩) hag this
    ·have hn:m≠0:=by omega
     have:=(afterElse hn h1 h2 hag).2;rw[XZ hn]at this⊢;exact Ue hQ hs ho hready (quiet2 h0).1 (fun k hk=>((quiet2 h0).2 k hk).1) hc (N:=fun _=>True) (fun _ _ _ _ _=>trivial) (.inr ⟨hwf,rfl⟩) hag this
   have go:∀{fr':Fr},Models M η fr' O nx a w->Region.wanted o (yielded ops a.tmps)=true->(Zcp M m o fr' O nx fun v O nx=>putK o.dst v fr' fun fr=>runD M ops.toList rest fr O nx K)->
    wpH M.fence M.P .any ops Q (SS (ZB (.take i m rest)) wc) (Plan.take i m rest).depth l a w:=by
    intro fr' hm' hw h
    have op:∀{K':Act->World->Prop},o.wpIn M.fence 0 M.P a w K' Q->wpOpIn M.fence 0 M.P ops Q i K' a w:=by
     intro K' hk;unfold wpOpIn;simp only[ho];rw[if_pos hw];exact hk
    refine modes (fun h0=>?_) (fun h0=>?_) (fun h0=>?_) (fun h0=>?_)
    ·have h:Z2E M o (JX fr') O nx fun v O nx=>putK o.dst v fr' fun fr=>runD M ops.toList rest fr O nx K:=by subst h0;exact h
     refine alone (alone0 h0) hag (op (Vq hT hm' (fun x sv hx=>Yx hm'.frame hx) h fun u v O' nx' η' w' hd hp hH hv hk=>?_));obtain⟨fr2,h1,h2⟩:=hm'.put hd hp hH hv hk;exact afterKill h0 h1 h2
    ·have h:ZaN M.C.N (Z3i M.C) o fr' nx fun v=>putK o.dst v fr' fun fr=>runD M ops.toList rest fr O nx K:=by subst h0;exact h
     obtain⟨hd,u,v,hy,hv,hk⟩:=Z1N (P:=M.P) (C':=Z3i M.C) ⟨hT.und,hT.info,hT.zero,hT.zsh,hT.flat,hT.key⟩ (N:=fun _=>True) (w:=w) hm'.frame (fun w' _=>HeapOK.blind (M:=M) hm'.heap.len w') trivial h;obtain⟨fr2,h1,h2⟩:=Wh hm' hd hv hk;have hn:m≠0:=by omega
     have:=(afterElse hn h1 h2 hag).2;rw[XZ hn]at this⊢;exact Ue hQ hs ho hready (quiet1 h0).1 (quiet1 h0).2 hc (N:=fun _=>True) (fun _ _ _ _ _=>trivial) (.inl ⟨hw,fun w' h=>hy w' h⟩) hag this
    ·have h:ZaN M.C.N (Z4O M.C O) o fr' nx fun v=>putK o.dst v fr' fun fr=>runD M ops.toList rest fr O nx K:=by subst h0;exact h
     obtain⟨hd,u,v,hy,hv,hk⟩:=Z1N (P:=M.P) (C':=Z4O M.C O) hT (N:=agree w) hm'.frame (fun w' h=>hm'.heap.read h) (agree.refl w) h;obtain⟨fr2,h1,h2⟩:=Wh hm' hd hv hk;have hn:m≠0:=by omega
     have:=IH h1 hl2 hc' h2 hq (agree.refl w);rw[XZ hn];refine Z0r (S':=SS (ZB rest) w) (l0:=l) (fun l' w' _ hS hk=>hag.trans (hS hk)) _ _ _ _ (fun _ h=>h) ?_;refine Ue hQ hs ho hready (quiet2 h0).1 (fun k hk=>((quiet2 h0).2 k hk).1) hc (N:=agree w) (fun l' w' hcl hun hS=>hS fun k hk=>?_) (.inl ⟨hw,fun w' h=>hy w' h⟩) (agree.refl w) this;cases hlk:l'.getD k false with
     |false=>rfl
     |true=>
      have:=Z6U hcl k ((quiet2 h0).2 k hk).2 hlk;rw[Z0s hun]at this;cases this
    ·have h:ADD M o fr' O nx fun v O nx=>putK o.dst v fr' fun fr=>runD M ops.toList rest fr O nx K:=by
      match m,h0,h with
      |m+3,_,h=>exact h
     have hm2:Models (shMx M O η w) η fr' [] nx a w:=⟨hm'.heap.read (agree.refl w),hm'.size,hm'.nds,hm'.defers,hm'.ro,hm'.frame⟩;refine alone (alone3 h0) hag (op (Vq (M:=shMx M O η w) hT hm2 (fun x sv hx=>Yx hm'.frame hx) (h.hout η w hm'.heap) fun u v O2 nx2 η' w' hd hp hH hv hk=>?_));obtain⟨hJ,hag2⟩:=hm'.heap.join hH;obtain⟨fr2,h1,h2⟩:=hm'.put hd hp hJ hv hk;exact afterElse (by omega) h1 h2 (hag.trans hag2)
   split at h
   ·rename_i hg;exact go hm (U9 hg) h
   ·rename_i j want hg;split at h
    ·exact h.out.elim
    rename_i s hsl;split at h
    ·rename_i b hb;have hbv:=X5 (hm.frame s _ hb);have hy:=We hsl hbv;cases b with
     |true=>
      have h:=h.t rfl;have hm':Models M η ((s, .bool true)::fr) O nx a w:=hm.know hb rfl rfl hbv;cases want with
      |true=>exact go hm' ((ZC hg).2 hy) h
      |false=>exact skip hm' (fun hw=>by rw[ZC hg,hy]at hw;cases hw) h
     |false=>
      have h:=h.f rfl;have hm':Models M η ((s, .bool false)::fr) O nx a w:=hm.know hb rfl rfl hbv;cases want with
      |false=>exact go hm' ((ZC hg).2 hy) h
      |true=>exact skip hm' (fun hw=>by rw[ZC hg,hy]at hw;cases hw) h
    ·rename_i hb;have hbv:=hm.frame s _ hb;simp only[Den,DenL]at hbv;obtain⟨vs,hbv,rfl⟩:=hbv;exact skip hm (fun hw=>by rw[ZC hg]at hw;exact U8 hsl (by rw[hbv];simp) hw) h
    ·exact h.out.elim
 | .fork i mi j mj p q,fr,O,nx,K,h,l,hl,hc,η,a,w,hm,hq,wc,hag=>by
   simp only[Jk,Bool.and_eq_true,beq_iff_eq]at hl;obtain⟨⟨⟨⟨⟨hr,hmi⟩,hmj⟩,hdep⟩,hlp⟩,hlq⟩:=hl
   replace h:FORK (oneD M ops.toList i mi fr O nx fun fr O nx=>runD M ops.toList p fr O nx K) (oneD M ops.toList j mj fr O nx fun fr O nx=>runD M ops.toList q fr O nx K):=h
   have hi:i∈Region.ready .any ops l:=by rw[hr];simp
   have hj:j∈Region.ready .any ops l:=by rw[hr];simp
   refine⟨fun h0=>(by rw[hr]at h0;cases h0),fun x hx=>?_⟩;rw[hr]at hx;rcases List.mem_cons.1 hx with rfl|hx
   ·exact arm hT hm hag hc hmi hi (fun h0=>by subst h0;exact V6) (fun k hk=>ZJ (ZJ (List.mem_append_left _ hk))) rfl (fun hk hm' hag=>XN hT hQ hs p hk hlp (hc.set hi) hm' hq hag) h.a
   ·have hx:=List.mem_singleton.1 hx;subst hx;exact arm hT hm hag hc hmj hj (fun h0=>by subst h0;exact ZJ V6) (fun k hk=>ZJ (ZJ (List.mem_append_right _ hk))) hdep.symm (fun hk hm' hag=>XN hT hQ hs q hk hlq (hc.set hj) hm' hq hag) h.b
 | .fork3 i mi j mj k mk p q r,fr,O,nx,K,h,l,hl,hc,η,a,w,hm,hq,wc,hag=>by
   simp only[Jk,Bool.and_eq_true,beq_iff_eq]at hl;obtain⟨⟨⟨⟨⟨⟨⟨⟨hr,hmi⟩,hmj⟩,hmk⟩,hdep⟩,hdep2⟩,hlp⟩,hlq⟩,hlr⟩:=hl
   replace h:FORK (oneD M ops.toList i mi fr O nx fun fr O nx=>runD M ops.toList p fr O nx K) (FORK (oneD M ops.toList j mj fr O nx fun fr O nx=>runD M ops.toList q fr O nx K) (oneD M ops.toList k mk fr O nx fun fr O nx=>runD M ops.toList r fr O nx K)):=h
   have hi:i∈Region.ready .any ops l:=by rw[hr];simp
   have hj:j∈Region.ready .any ops l:=by rw[hr];simp
   have hk':k∈Region.ready .any ops l:=by rw[hr];simp
   refine⟨fun h0=>(by rw[hr]at h0;cases h0),fun x hx=>?_⟩;rw[hr]at hx;rcases List.mem_cons.1 hx with rfl|hx
   ·exact arm hT hm hag hc hmi hi (fun h0=>by subst h0;exact V6) (fun k hk=>ZJ (ZJ (ZJ (List.mem_append_left _ hk)))) rfl (fun hk hm' hag=>XN hT hQ hs p hk hlp (hc.set hi) hm' hq hag) h.a
   ·rcases List.mem_cons.1 hx with rfl|hx
    ·exact arm hT hm hag hc hmj hj (fun h0=>by subst h0;exact ZJ V6) (fun k hk=>ZJ (ZJ (ZJ (List.mem_append_right _ (List.mem_append_left _ hk))))) hdep.symm (fun hk hm' hag=>XN hT hQ hs q hk hlq (hc.set hj) hm' hq hag) h.b.a
    ·have hx:=List.mem_singleton.1 hx;subst hx;exact arm hT hm hag hc hmk hk' (fun h0=>by subst h0;exact ZJ (ZJ V6)) (fun k hk=>ZJ (ZJ (ZJ (List.mem_append_right _ (List.mem_append_right _ hk))))) hdep2.symm (fun hk hm' hag=>XN hT hQ hs r hk hlr (hc.set hk') hm' hq hag) h.b.b
 | .join p,fr,O,nx,K,h,l,hl,hc,η,a,w,hm,hq,wc,hag=>by
   replace h:JOIN (fun fr=>runD M ops.toList p fr O nx K) fr:=h
   obtain⟨fr',he,h⟩:=h.out;have hm':Models M η fr' O nx a w:=⟨hm.heap,hm.size,hm.nds,(by rw[he];exact hm.defers),hm.ro,fun t sv ht=>hm.frame t sv (by rw[<-he];exact ht)⟩;exact XN hT hQ hs p h hl hc hm' hq hag
theorem DRAWN.of{M:Mx}(hT:TabOK M.P M.C.T)(hP:M.P.follows .mixedOrders=true){id:Nat}{ops:Array Oper}{fr:Fr}{O:Hps}{nx:Nat}{Q:Post}(steps:Plan)(hord:Zcq ops steps=true)
 (h:runD M ops.toList steps fr O nx fun fr O nx=>Q .normal fr O nx):DRAWN M id ops fr O nx Q:=by
 simp only[Zcq,Bool.and_eq_true,beq_iff_eq]at hord;obtain⟨⟨hs,hlen⟩,hord⟩:=hord;refine⟨fun η a w hm=>Code.wpIn_mono (Q:=fun e a w=>(∀ch,e≠ .panic ch)/\ZaB M Q e a w) (fun e a w h=>h.2) (wpIn_region_any hP (Z1L (S:=SS (ZB steps) {w with drawn:=w.drawn+1}) _ _ _ _ ?_))⟩;have hm':Models M η fr O nx a {w with drawn:=w.drawn+1}:=⟨hm.heap.drawn (Nat.le_succ _),hm.size,hm.nds,hm.defers,hm.ro,hm.frame⟩
 have hc0:Closed .any ops (Array.replicate ops.size false):=by
  refine⟨by simp,fun j o hj hl=>?_⟩;rcases Nat.lt_or_ge j ops.size with h'|h'
  ·simp[h']at hl
  ·simp[h']at hl
 have key:=XN (Q:=fun e a w=>(∀ch,e≠ .panic ch)/\ZaB M Q e a w) hT (fun c a w hq=>hq.1 c rfl) hs steps h hord hc0 hm' (fun η fr O nx a w hm hq=>⟨(fun ch he=>by cases he),η,fr,O,nx,hm,hq⟩) (agree.refl _);rw[hlen]at key;exact key
end
section
variable {σ:Nat->Nat}{k:Nat}
theorem Wi(h:∀j,j<k->σ j=j):∀{b:Blk},WD k b=true->renB σ b=b
 | .glob g,_=>rfl
 | .loc i,hb=>by simp only[WD,Nat.blt_eq]at hb;simp only[renB,h i hb]
mutual
theorem VV(h:∀j,j<k->σ j=j):∀{v:SV},ZQ k v=true->ren σ v=v
 | .bool _,_=>rfl
 | .int _ _,_=>rfl
 | .str _,_=>rfl
 | .val _,_=>rfl
 | .any,_=>rfl
 | .nb _,_=>rfl
 | .dfs l,hb=>by simp only[ZQ]at hb;simp only[ren,Xn h hb]
 | .yf b,hb=>by simp only[ZQ]at hb;simp only[ren,Wi h hb]
 | .mp b,hb=>by simp only[ZQ]at hb;simp only[ren,Wi h hb]
 | .ptr b _ _ _,hb=>by simp only[ZQ]at hb;simp only[ren,Wi h hb]
 | .sl b _ _ _ _,hb=>by simp only[ZQ]at hb;simp only[ren,Wi h hb]
 | .agg cs,hb=>by simp only[ZQ]at hb;simp only[ren,Xn h hb]
 | .arr _ rs,hb=>by simp only[ZQ]at hb;simp only[ren,V7 h hb]
 | .tup vs,hb=>by simp only[ZQ]at hb;simp only[ren,Xn h hb]
 | .ifc _ v,hb=>by simp only[ZQ]at hb;simp only[ren,VV h hb]
 | .fn _ a b,hb=>by simp only[ZQ,Bool.and_eq_true]at hb;simp only[ren,Xn h hb.1,Xn h hb.2]
theorem Xn(h:∀j,j<k->σ j=j):∀{vs:List SV},ZM k vs=true->renL σ vs=vs
 | [],_=>rfl
 |c::cs,hb=>by simp only[ZM,Bool.and_eq_true]at hb;simp only[renL,VV h hb.1,Xn h hb.2]
theorem V7(h:∀j,j<k->σ j=j):∀{vs:List (List SV)},Yt k vs=true->Xt σ vs=vs
 | [],_=>rfl
 |c::cs,hb=>by simp only[Yt,Bool.and_eq_true]at hb;simp only[Xt,Xn h hb.1,V7 h hb.2]
end
theorem Z4Q(h:∀j,j<k->σ j=j):∀{fr:Fr},WE k fr=true->renF σ fr=fr
 | [],_=>rfl
 |(t,v)::r,hb=>by
  simp only[WE,Bool.and_eq_true]at hb;simp only[renF,VV h hb.1,Z4Q h hb.2]
theorem ZaS(h:∀j,j<k->σ j=j):∀{c:DC},Z0p k c=true->renC σ c=c
 | .v s,hb=>by simp only[Z0p]at hb;simp only[renC,VV h hb]
 | .kid _ rs,hb=>by simp only[Z0p]at hb;simp only[renC,V7 h hb]
theorem Z3p(h:∀j,j<k->σ j=j):∀{r:List DC},XH k r=true->Z0o σ r=r
 | [],_=>rfl
 |c::cs,hb=>by simp only[XH,Bool.and_eq_true]at hb;simp only[Z0o,ZaS h hb.1,Z3p h hb.2]
theorem Z1O(h:∀j,j<k->σ j=j):∀{r:List (List DC)},Yz k r=true->XM σ r=r
 | [],_=>rfl
 |c::cs,hb=>by simp only[Yz,Bool.and_eq_true]at hb;simp only[XM,Z3p h hb.1,Z1O h hb.2]
theorem Wj(h:∀j,j<k->σ j=j):∀{hp:Hp},Zg k hp=true->renH σ hp=hp
 | .deep _ _ _,hb=>by simp only[Zg]at hb;simp only[renH,Z1O h hb]
 | .box _,hb=>by simp only[Zg]at hb;simp only[renH,Xn h hb]
 | .rows _ _,hb=>by simp only[Zg]at hb;simp only[renH,V7 h hb]
 | .siter _ _,_=>rfl
 | .tbl _,_=>rfl
 | .bld _ _ _,_=>rfl
 | .dfr _,_=>rfl
 | .lp _ _ fr,hb=>by simp only[Zg]at hb;simp only[renH,Z4Q h hb]
 | .mp _,hb=>by simp only[Zg]at hb;simp only[renH,V7 h hb]
theorem Z4R(h:∀j,j<k->σ j=j):∀{O:Hps},Zl k O=true->renO σ O=O
 | [],_=>rfl
 |(i,hp)::r,hb=>by
  simp only[Zl,Bool.and_eq_true,Nat.blt_eq]at hb;simp only[renO,h i hb.1,Wj h hb.2.1,Z4R h hb.2.2]
end
variable {M:Mx}{fr fr':Fr}{O O':Hps}{nx:Nat}
theorem ZcC{k i:Nat}(h:i<k):(List.range k).getD i 0=i:=by simp[List.getD,h]
theorem Z8z{k nx j:Nat}(h:j<k):Zi (List.range k) nx j=j:=by
 simp only[Zi,List.length_range,if_pos h,ZcC h]
def hereO(O:Hps):Hps->Prop
 | []=>True
 |(i,h)::r=>match lkp i O with
  |some g=>g=h/\hereO O r
  |none=>False
def hereS(C:Cx)(O:Hps):Hps->Prop
 | []=>True
 |(i,h)::r=>match Yp C O (.loc i)with
  |some g=>g=h/\hereS C O r
  |none=>False
theorem hereO.at{O:Hps}:∀{Oc:Hps},hereO O Oc->∀p∈Oc,lkp p.1 O=some p.2
 | [],_,p,hp=>by cases hp
 |(i,h)::r,hs,p,hp=>by
  simp only[hereO]at hs;split at hs
  ·rename_i g hg;obtain⟨rfl,hs⟩:=hs;rcases List.mem_cons.1 hp with rfl|hp
   ·exact hg
   ·exact hereO.at hs p hp
  ·exact hs.elim
theorem hereS.at{C:Cx}{O:Hps}:∀{Sc:Hps},hereS C O Sc->∀p∈Sc,Yp C O (.loc p.1)=some p.2
 | [],_,p,hp=>by cases hp
 |(i,h)::r,hs,p,hp=>by
  simp only[hereS]at hs;split at hs
  ·rename_i g hg;obtain⟨rfl,hs⟩:=hs;rcases List.mem_cons.1 hp with rfl|hp
   ·exact hg
   ·exact hereS.at hs p hp
  ·exact hs.elim
theorem Xo{k:Nat}:∀{O:Hps},Zl k O=true->∀p∈O,p.1<k/\Zg k p.2=true
 | [],_,p,hp=>by cases hp
 |(i,h)::r,hb,p,hp=>by
  simp only[Zl,Bool.and_eq_true,Nat.blt_eq]at hb;rcases List.mem_cons.1 hp with rfl|hp
  ·exact⟨hb.1,hb.2.1⟩
  ·exact Xo hb.2.2 p hp
theorem Xp{k:Nat}:∀{O:Hps},Zl k O=true->∀j∈Za O,j<k
 | [],_,j,hj=>by cases hj
 |(i,h)::r,hb,j,hj=>by
  simp only[Zl,Bool.and_eq_true,Nat.blt_eq]at hb;rcases List.mem_cons.1 hj with rfl|hj
  ·exact hb.1
  ·exact Xp hb.2.2 j hj
theorem Z9N{f:Nat->Nat}:∀{l:List Nat},(∀j∈l,f j=j)->l.map f=l
 | [],_=>rfl
 |x::l,h=>by simp only[List.map_cons,h x (List.mem_cons_self ..),Z9N fun j hj=>h j (List.mem_cons_of_mem _ hj)]
theorem Z0w:∀{S:Hps} {p:Nat×Hp},p∈S->p.1∈Za S
 | [],p,hp=>by cases hp
 |(i,h)::S,p,hp=>by
  rcases List.mem_cons.1 hp with rfl|hp
  ·exact List.mem_cons_self ..
  ·exact List.mem_cons_of_mem _ (Z0w hp)
theorem CALL.here{f:FuncId}{args:List SV}{K:SV->Hps->Nat->Prop}{k:Nat}{Oc Sc:Hps}{Q:SV->Hps->Nat->Prop}(sp:Does M.P M.C.T f k args Oc Sc Q)
 (hk:Nat.ble k nx=true) (hb:ZM k args=true) (hbO:Zl k Oc=true) (hbS:Zl k Sc=true) (hO:hereO O Oc) (hS:hereS M.C O Sc)
 (hd:(Za Sc).all (fun j=>!((Za Oc).any (Nat.beq j)))=true)
 (hQ:∀r O' nx',Q r O' nx'->nx'=k/\ZQ k r=true/\Zl k O'=true)
 (hK:∀r O',Q r O' k->K r (O'++ZV (Za Oc) O) nx):CALL M f args O nx K:=by
 have hk:=Nat.le_of_ble_eq_true hk;have hσ:∀j,j<k->Zi (List.range k) nx j=j:=fun j hj=>Z8z hj;have hnames:(Za Oc).map (Zi (List.range k) nx)=Za Oc:=Z9N fun j hj=>hσ j (Xp hbO j hj);refine CALL.of (List.range k) sp (by simp) (fun i hi=>by have:=List.mem_range.1 hi;omega) (Xn hσ hb).symm hb ?_ ?_ ?_ ?_
 ·intro p hp;obtain⟨h1,h2⟩:=Xo hbO p hp;exact⟨h1,by rw[hσ _ h1,Wj hσ h2];exact hO.at p hp,h2⟩
 ·intro j hj j' hj' he;rwa [hσ j (Xp hbO j hj),hσ j' (Xp hbO j' hj')]at he
 ·intro p hp;obtain⟨h1,h2⟩:=Xo hbS p hp;refine⟨h1,by rw[hσ _ h1,Wj hσ h2];exact hS.at p hp,h2,?_⟩;rw[hnames,hσ _ h1];intro hm;have hj:p.1∈Za Sc:=Z0w hp;have:=List.all_eq_true.1 hd _ hj;simp only[Bool.not_eq_eq_eq_not,Bool.not_true]at this;have h3:(Za Oc).any (Nat.beq p.1)=true:=List.any_eq_true.2 ⟨p.1,hm,Xl _⟩;rw[h3]at this;cases this
 ·intro r O' nx' hq;obtain⟨rfl,h1,h2⟩:=hQ r O' nx' hq;have:=hK r O' hq;rw[VV hσ h1,Z4R hσ h2,hnames];simpa using this
def thereO(σ:Nat->Nat)(O:Hps):Hps->Prop
 | []=>True
 |(i,h)::r=>match lkp (σ i) O with
  |some g=>g=renH σ h/\thereO σ O r
  |none=>False
def thereS(C:Cx)(σ:Nat->Nat)(O:Hps):Hps->Prop
 | []=>True
 |(i,h)::r=>match Yp C O (.loc (σ i))with
  |some g=>g=renH σ h/\thereS C σ O r
  |none=>False
theorem thereO.at{σ:Nat->Nat}{O:Hps}:∀{Oc:Hps},thereO σ O Oc->∀p∈Oc,lkp (σ p.1) O=some (renH σ p.2)
 | [],_,p,hp=>by cases hp
 |(i,h)::r,hs,p,hp=>by
  simp only[thereO]at hs;split at hs
  ·rename_i g hg;obtain⟨rfl,hs⟩:=hs;rcases List.mem_cons.1 hp with rfl|hp
   ·exact hg
   ·exact thereO.at hs p hp
  ·exact hs.elim
theorem thereS.at{C:Cx}{σ:Nat->Nat}{O:Hps}:∀{Sc:Hps},thereS C σ O Sc->∀p∈Sc,Yp C O (.loc (σ p.1))=some (renH σ p.2)
 | [],_,p,hp=>by cases hp
 |(i,h)::r,hs,p,hp=>by
  simp only[thereS]at hs;split at hs
  ·rename_i g hg;obtain⟨rfl,hs⟩:=hs;rcases List.mem_cons.1 hp with rfl|hp
   ·exact hg
   ·exact thereS.at hs p hp
  ·exact hs.elim
theorem CALL.at{f:FuncId}{args argsc:List SV}{K:SV->Hps->Nat->Prop}{k:Nat}{Oc Sc:Hps}{Q:SV->Hps->Nat->Prop}(L:List Nat)(sp:Does M.P M.C.T f k argsc Oc Sc Q)
 (hL:L.length=k) (hLn:L.all (fun i=>Nat.blt i nx)=true) (ha:args=renL (Zi L nx) argsc) (hb:ZM k argsc=true) (hbO:Zl k Oc=true) (hbS:Zl k Sc=true) (hO:thereO (Zi L nx) O Oc) (hS:thereS M.C (Zi L nx) O Sc)
 (hinj:(Za Oc).all (fun j=>(Za Oc).all fun j'=>!(Nat.beq (Zi L nx j) (Zi L nx j'))||Nat.beq j j')=true)
 (hd:(Za Sc).all (fun j=>!((Za Oc).any fun j'=>Nat.beq (Zi L nx j) (Zi L nx j')))=true)
 (hK:∀r O' nx',Q r O' nx'->K (ren (Zi L nx) r) (renO (Zi L nx) O'++ZV ((Za Oc).map (Zi L nx)) O) (nx+(nx'-k))):CALL M f args O nx K:=by
 refine CALL.of L sp hL (fun i hi=>by have:=List.all_eq_true.1 hLn i hi;simpa[Nat.blt_eq]using this) ha hb (fun p hp=>?_) (fun j hj j' hj' he=>?_) (fun p hp=>?_) hK
 ·obtain⟨h1,h2⟩:=Xo hbO p hp;exact⟨h1,hO.at p hp,h2⟩
 ·have:=List.all_eq_true.1 (List.all_eq_true.1 hinj j hj) j' hj';simp only[he,Xl,Bool.not_true,Bool.false_or]at this;exact Zn this
 ·obtain⟨h1,h2⟩:=Xo hbS p hp;refine⟨h1,hS.at p hp,h2,fun hm=>?_⟩;obtain⟨j',hj',he⟩:=List.mem_map.1 hm;have:=List.all_eq_true.1 hd _ (Z0w hp);simp only[Bool.not_eq_eq_eq_not,Bool.not_true]at this;have h3:(Za Oc).any (fun j'=>Nat.beq (Zi L nx p.1) (Zi L nx j'))=true:=List.any_eq_true.2 ⟨j',hj',by rw[he];exact Xl _⟩;rw[h3]at this;cases this
theorem CALLE.at{f:FuncId}{args argsc:List SV}{KP K:SV->Hps->Nat->Prop}{k:Nat}{Oc Sc:Hps}{Q X:SV->Hps->Nat->Prop}(L:List Nat)(sp:DoesE M.P M.C.T f k argsc Oc Sc Q X)
 (hL:L.length=k) (hLn:L.all (fun i=>Nat.blt i nx)=true) (ha:args=renL (Zi L nx) argsc) (hb:ZM k argsc=true) (hbO:Zl k Oc=true) (hbS:Zl k Sc=true) (hO:thereO (Zi L nx) O Oc) (hS:thereS M.C (Zi L nx) O Sc)
 (hinj:(Za Oc).all (fun j=>(Za Oc).all fun j'=>!(Nat.beq (Zi L nx j) (Zi L nx j'))||Nat.beq j j')=true)
 (hd:(Za Sc).all (fun j=>!((Za Oc).any fun j'=>Nat.beq (Zi L nx j) (Zi L nx j')))=true)
 (hK:∀r O' nx',Q r O' nx'->K (ren (Zi L nx) r) (renO (Zi L nx) O'++ZV ((Za Oc).map (Zi L nx)) O) (nx+(nx'-k)))
 (hX:∀r O' nx',X r O' nx'->KP (ren (Zi L nx) r) (renO (Zi L nx) O'++ZV ((Za Oc).map (Zi L nx)) O) (nx+(nx'-k))):CALLE M f args O nx KP K:=by
 refine CALLE.of L sp hL (fun i hi=>by have:=List.all_eq_true.1 hLn i hi;simpa[Nat.blt_eq]using this) ha hb (fun p hp=>?_) (fun j hj j' hj' he=>?_) (fun p hp=>?_) hK hX
 ·obtain⟨h1,h2⟩:=Xo hbO p hp;exact⟨h1,hO.at p hp,h2⟩
 ·have:=List.all_eq_true.1 (List.all_eq_true.1 hinj j hj) j' hj';simp only[he,Xl,Bool.not_true,Bool.false_or]at this;exact Zn this
 ·obtain⟨h1,h2⟩:=Xo hbS p hp;refine⟨h1,hS.at p hp,h2,fun hm=>?_⟩;obtain⟨j',hj',he⟩:=List.mem_map.1 hm;have:=List.all_eq_true.1 hd _ (Z0w hp);simp only[Bool.not_eq_eq_eq_not,Bool.not_true]at this;have h3:(Za Oc).any (fun j'=>Nat.beq (Zi L nx p.1) (Zi L nx j'))=true:=List.any_eq_true.2 ⟨j',hj',by rw[he];exact Xl _⟩;rw[h3]at this;cases this
theorem FIN.at{k:Nat}{r:SV}{Q:SV->Hps->Nat->Prop}(hk:M.η0.length=k)(τ:List Nat)(rc:SV)(Oc:Hps)(hτ:τ.all (fun i=>Nat.blt i nx)=true)(hr:r=ren (YM k τ) rc)(hb:ZQ (k+τ.length) rc=true)(hbO:Zl (k+τ.length) Oc=true)
 (hO:thereO (YM k τ) O Oc) (hinj:(Za Oc).all (fun j=>(Za Oc).all fun j'=>!(Nat.beq (YM k τ j) (YM k τ j'))||Nat.beq j j')=true) (hQ:Q rc Oc (k+τ.length)):FIN M O nx r Q:=by
 refine FIN.keep hk τ (rc:=rc) (Oc:=Oc) (fun i hi=>by have:=List.all_eq_true.1 hτ i hi;simpa[Nat.blt_eq]using this) hr hb (fun p hp=>?_) (fun j hj j' hj' he=>?_) hQ
 ·obtain⟨h1,h2⟩:=Xo hbO p hp;exact⟨h1,hO.at p hp,h2⟩
 ·have:=List.all_eq_true.1 (List.all_eq_true.1 hinj j hj) j' hj';simp only[he,Xl,Bool.not_true,Bool.false_or]at this;exact Zn this
theorem Zex{G:Prop}{body:Code}{Q:Post}{n:Nat}{X:Type}(P:X->Prop)(frx:X->Fr)(Ox:X->Hps)(h1:(∀x,P x->LOOP M body (frx x) (Ox x) n Q)->G)(h2:∀x,P x->LOOP M body (frx x) (Ox x) n Q):G:=h1 h2
theorem CALL.weak{f:FuncId}{args:List SV}{K:SV->Hps->Nat->Prop}{O1:Hps}{n1:Nat}(h:∀η w,HeapOK M η w O nx->∃η',η<+:η'/\HeapOK M η' w O1 n1)(hc:CALL M f args O1 n1 K):CALL M f args O nx K:=by
 refine⟨fun η w vs H hd=>?_⟩;obtain⟨η1,hp,H1⟩:=h η w H;refine(hc.out η1 w vs H1 (DenL.mono hp hd)).mono ?_;rintro v w' ⟨r,O',nx',η',h1,h2⟩;exact⟨r,O',nx',η',hp.trans h1,h2⟩
def Z3q(nx es:Nat):Nat->List SV->Option (List SV)
 |0, .val (.slice none 0 0)::r=>some (.sl (.loc nx) 0 es 0 none::r)
 |j+1,c::r=>match Z3q nx es j r with|some r=>some (c::r)|none=>none
 |_,_=>none
theorem Z71{nx es:Nat}:∀{j:Nat} {row row':List SV},Z3q nx es j row=some row'->∀(i:Nat) (sv:SV),row'[i]?=some sv->row[i]?=some sv\/(row[i]?=some (SV.val (.slice none 0 0))/\sv=SV.sl (.loc nx) 0 es 0 none)
 |0,[],_,h=>by simp[Z3q]at h
 |0,c::r,row',h=>by
  unfold Z3q at h;split at h
  ·rename_i e1 e2;injection e2 with e2 e3;subst e2 e3;injection h with h;subst h;intro i sv hi;cases i with
   |zero=>simp at hi;subst hi;exact .inr ⟨rfl,rfl⟩
   |succ i=>exact .inl (by simpa using hi)
  ·simp_all
  ·cases h
 |j+1,[],_,h=>by simp[Z3q]at h
 |j+1,c::r,row',h=>by
  unfold Z3q at h;split at h
  ·rename_i r1 hr;injection h with h;subst h;intro i sv hi;cases i with
   |zero=>left;simpa using hi
   |succ i=>
    have:=Z71 hr i sv (by simpa using hi);simpa using this
  ·cases h
theorem HeapOK.nilCell{η:Env}{w:World}(H:HeapOK M η w O nx){i j es:Nat}{row row':List SV}(hi:lkp i O=some (.box row))(hr:Z3q nx es j row=some row'):
 ∃η',η<+:η'/\HeapOK M η' w ((nx, .rows es [])::setK i (.box row') O) (nx+1):=by
 have hpre:η<+:η++ [none]:=List.prefix_append _ _;have hnew:(η++ [none])[nx]?=some none:=by rw[List.getElem?_append_right (by rw[H.len];omega),H.len];simp
 have hold:∀{i h},lkp i O=some h->(η++ [none])[i]?=η[i]?:=fun{i h} hi=>by
  rw[List.getElem?_append_left (by rw[H.len];exact H.lt hi)]
 have hin:∀{a h},lkp a (setK i (.box row') O)=some h->∃h0,lkp a O=some h0/\HpSat (η++ [none]) w true (.loc a) h/\∀n,feet (η++ [none]) w (.loc a) h n->feet η w (.loc a) h0 n:=by
  intro a h ha;rw[ZX _ _ _ _ (by rw[hi];rfl)]at ha;split at ha
  ·rename_i e;subst e;injection ha with ha;subst ha;refine⟨_,hi,?_,fun n f=>H.stands hpre hi (fun _ _=>rfl) (show feet (η++ [none]) w (.loc _) (.box row) n from f)⟩;have:=(H.own.1 _ _ hi).1.mono hpre;simp only[HpSat]at this⊢;obtain⟨e,arr,T,fz,h1,h2,h3,h4⟩:=this;refine⟨e,arr,T,fz,h1,h2,h3,fun c sv hc=>?_⟩;rcases Z71 hr c sv hc with hc'|⟨hc',rfl⟩
   ·exact h4 c sv hc'
   ·obtain⟨v,h5,h6,h7⟩:=h4 c _ hc';refine⟨v,h5,h6,?_⟩;simp only[Den]at h7⊢;exact .inl ⟨hnew,h7.1,trivial⟩
  ·exact⟨h,ha,(H.own.1 _ _ ha).1.mono hpre,fun n f=>H.stands hpre ha (fun _ _=>rfl) f⟩
 refine⟨η++ [none],hpre,H.pre.trans hpre,by simp[H.len],⟨fun a h ha=>?_,fun a b h h' n ha hb hab f f'=>?_⟩,H.fr,H.sok⟩
 ·rw[Z6]at ha;split at ha
  ·rename_i e;subst e;injection ha with ha;subst ha
   exact⟨.inl ⟨hnew,rfl⟩,fun n f=>(feet.none (b:= .loc _) hnew f).elim⟩
  ·obtain⟨h0,h1,h2,h3⟩:=hin ha;exact⟨h2,fun n f=>(H.own.1 a h0 h1).2 n (h3 n f)⟩
 ·rw[Z6]at ha hb;split at ha
  ·rename_i e1;subst e1;exact(feet.none (b:= .loc _) hnew f).elim
  ·split at hb
   ·rename_i e2;subst e2;exact(feet.none (b:= .loc _) hnew f').elim
   ·obtain⟨h0,h1,_,h3⟩:=hin ha;obtain⟨h0',h1',_,h3'⟩:=hin hb;exact H.own.2 a b h0 h0' n h1 h1' hab (h3 n f) (h3' n f')
theorem CALL.nilCell{f:FuncId}{args:List SV}{K:SV->Hps->Nat->Prop}(i j es:Nat){row row':List SV}(hi:lkp i O=some (.box row))(hr:Z3q nx es j row=some row')(hc:CALL M f args ((nx, .rows es [])::setK i (.box row') O) (nx+1) K):CALL M f args O nx K:=
 CALL.weak (fun η w H=>H.nilCell hi hr) hc
theorem FIN.here{k:Nat}{r rc:SV}{Oc:Hps}{Q:SV->Hps->Nat->Prop}(hk:M.η0.length=k)(hr:r=rc)(hb:ZQ k rc=true)(hbO:Zl k Oc=true)(hO:hereO O Oc)(hQ:Q rc Oc k):FIN M O nx r Q:=by
 have hσ:∀j,j<k->YM k [] j=j:=fun j hj=>by simp[YM,hj]
 refine FIN.keep hk [] (rc:=rc) (Oc:=Oc) (fun i hi=>by cases hi) (by rw[VV hσ hb];exact hr) hb ?_ ?_ hQ
 ·intro p hp;obtain⟨h1,h2⟩:=Xo hbO p hp;exact⟨h1,by rw[hσ _ h1,Wj hσ h2];exact hO.at p hp,h2⟩
 ·intro j hj j' hj' he;rwa [hσ j (Xp hbO j hj),hσ j' (Xp hbO j' hj')]at he
def Loose(k:Nat):List SV->List SV->Prop
 |_,[]=>True
 | [],_::_=>False
 |c::cs,c'::cs'=>(c'= .any\/(c'=c/\ZQ k c=true))/\Loose k cs cs'
theorem Loose.get{k:Nat}:∀{row row':List SV},Loose k row row'->∀(j:Nat) (sv:SV),row'[j]?=some sv->∃c,row[j]?=some c/\(sv= .any\/(sv=c/\ZQ k c=true))
 |_,[],_,j,sv,h=>by simp at h
 | [],_::_,h,_,_,_=>h.elim
 |c::cs,c'::cs',h,0,sv,hj=>by simp at hj;subst hj;exact⟨c,rfl,h.1⟩
 |c::cs,c'::cs',h,j+1,sv,hj=>by simp at hj;obtain⟨d,h1,h2⟩:=Loose.get h.2 j sv hj;exact⟨d,by simpa using h1,h2⟩
theorem FIN.loose{k:Nat}{r:SV}{Q:SV->Hps->Nat->Prop}(hk:M.η0.length=k)(i:Nat)(row':List SV){row:List SV}(hr:plain r=true)(hO:lkp i O=some (.box row))(hi:Nat.blt i k=true)(hl:Loose k row row')(hQ:Q r [(i, .box row')] k):FIN M O nx r Q:=by
 refine⟨fun η w v H hd=>⟨r,[(i, .box row')],k,M.η0,hQ,List.prefix_rfl,?_,?_⟩⟩
 ·have hi:i<k:=by simpa[Nat.blt_eq]using hi
  have hget:∀j,j<k->η[j]?=M.η0[j]?:=fun j hj=>by
   obtain⟨t,ht⟩:=H.pre;rw[<-ht,List.getElem?_append_left (by omega)]
  have hb:Bwd η M.η0 id k:=fun j x hj hx=>by rw[<-hget j hj];exact hx
  have hsat:HpSat M.η0 w true (.loc i) (.box row'):=by
   have:=(H.own.1 i _ hO).1;simp only[HpSat]at this⊢;obtain⟨e,arr,T,fz,h1,h2,h3,h4⟩:=this;refine⟨e,arr,T,fz,by simp only[Env.get]at h1⊢;rw[<-hget i hi];exact h1,h2,h3,fun j sv hj=>?_⟩;obtain⟨c,h5,h6⟩:=hl.get j sv hj;obtain⟨u,h7,h8,h9⟩:=h4 j c h5;refine⟨u,h7,h8,?_⟩;rcases h6 with rfl|⟨rfl,h6⟩
   ·simp only[Den]
   ·exact Den.unren hb h6 (by rw[Z3l (σ:=id) (fun _=>rfl)];exact h9)
  refine⟨List.prefix_rfl,hk,⟨fun j h hj=>?_,fun a b h h' n ha hb' hab=>?_⟩,H.fr,H.sok⟩
  ·rw[Z6]at hj;split at hj
   ·rename_i e;subst e;injection hj with hj;subst hj
    exact⟨hsat,fun n f=>(H.own.1 _ _ hO).2 n ((show feet M.η0 w (.loc _) (.box row) n from f).mono H.pre)⟩
   ·simp[lkp]at hj
  ·rw[Z6]at ha hb';split at ha
   ·split at hb'
    ·rename_i e1 e2;exact(hab (e1.trans e2.symm)).elim
    ·simp[lkp]at hb'
   ·simp[lkp]at ha
 ·have hb:Bwd η M.η0 (fun i=>i) 0:=fun i x hi=>by omega
  exact Den.unren hb (XI 0 hr) (by rw[Xf _ hr];exact hd)
def anyN:Nat->List SV
 |0=>[]
 |n+1=> .any::anyN n
theorem Z9O{η η':Env}:∀{cs:List SV} {vs:List Value},DenL η cs vs->DenL η' (anyN cs.length) vs
 | [],vs,h=>by simpa[DenL,anyN]using h
 |c::cs,vs,h=>by
  simp only[DenL,anyN,List.length_cons]at h⊢;obtain⟨u,us,rfl,_,h⟩:=h;exact⟨u,us,rfl,by simp only[Den],Z9O h⟩
theorem FIN.anyA(n:Nat){k:Nat}{r:SV}{cs vs:List SV}{Q:SV->Hps->Nat->Prop}(hk:M.η0.length=k)(hr:r= .tup (.agg cs::vs))(hn:Wx cs n=true)(hv:YK vs=true)(hQ:Q (.tup (.agg (anyN n)::vs)) [] k):FIN M O nx r Q:=by
 have hn:cs.length=n:=by
  clear hr hQ
  induction n generalizing cs with
  |zero=>cases cs with
   |nil=>rfl
   |cons a l=>simp[Wx]at hn
  |succ n ih=>cases cs with
   |nil=>simp[Wx]at hn
   |cons a l=>simp only[Wx]at hn;simp[ih hn]
 refine⟨fun η w v H hd=>⟨.tup (.agg (anyN n)::vs),[],k,M.η0,hQ,List.prefix_rfl,⟨List.prefix_rfl,hk,⟨fun i h hi=>by simp[lkp]at hi,fun i j h h' n hi=>by simp[lkp]at hi⟩,H.fr,H.sok⟩,?_⟩⟩;rw[hr]at hd;simp only[Den,DenL]at hd⊢;obtain⟨us,h1,u,us',h2,⟨xs,h5,h6,h7⟩,h4⟩:=hd;refine⟨us,h1,u,us',h2,⟨xs,h5,by rw[<-hn];exact Z9O h6,h7⟩,?_⟩;have hb:Bwd η M.η0 (fun i=>i) 0:=fun i x hi=>by omega
 exact DenL.unren hb (Zy 0 hv) (by rw[ZI _ hv];exact h4)
section
variable {m:Nat}{σ:Nat->Nat}{sv:SV}
theorem Z3r(hs:ZQ m sv=true):∀{row:List DC} {c:Nat},Ys row=true->XH m (row.set c (.v sv))=true
 | [],_,_=>rfl
 |d::row,0,h=>by simp only[Ys,Bool.and_eq_true]at h;simp only[List.set_cons_zero,XH,Z0p,hs,JQ m h.2,Bool.and_self]
 |d::row,c+1,h=>by simp only[Ys,Bool.and_eq_true]at h;simp only[List.set_cons_succ,XH,Z1F m h.1,Z3r hs h.2,Bool.and_self]
theorem Z1P(hs:ZQ m sv=true):∀{rs:List (List DC)} {r c:Nat},Zt rs=true->Yz m (setC rs r c (.v sv))=true
 | [],r,_,_=>by cases r<;>rfl
 |row::rs,0,c,h=>by simp only[Zt,Bool.and_eq_true]at h;simp only[setC,List.modify_zero_cons,Yz,Z3r hs h.1,Jp m h.2,Bool.and_self]
 |row::rs,r+1,c,h=>by simp only[Zt,Bool.and_eq_true]at h;simp only[setC,List.modify_succ_cons,Yz,JQ m h.1,Bool.true_and];exact Z1P hs h.2
theorem Z72:∀{row:List DC} {c:Nat},Ys row=true->Z0o σ (row.set c (.v sv))=row.set c (.v (ren σ sv))
 | [],_,_=>rfl
 |d::row,0,h=>by simp only[Ys,Bool.and_eq_true]at h;simp only[List.set_cons_zero,Z0o,renC,Ua σ h.2]
 |d::row,c+1,h=>by simp only[Ys,Bool.and_eq_true]at h;simp only[List.set_cons_succ,Z0o,Z4H σ h.1,Z72 h.2]
theorem Z4S:∀{rs:List (List DC)} {r c:Nat},Zt rs=true->XM σ (setC rs r c (.v sv))=setC rs r c (.v (ren σ sv))
 | [],r,_,_=>by cases r<;>rfl
 |row::rs,0,c,h=>by simp only[Zt,Bool.and_eq_true]at h;simp only[setC,List.modify_zero_cons,XM,Z72 h.1,Vs σ h.2]
 |row::rs,r+1,c,h=>by simp only[Zt,Bool.and_eq_true]at h;simp only[setC,List.modify_succ_cons,XM,Ua σ h.1];exact congrArg (row:: ·) (Z4S h.2)
theorem ZaT{mp:Bool}{es r c:Nat}{rs:List (List DC)}(h:Zt rs=true)(hs:ZQ m sv=true):Zg m (.deep mp es (setC rs r c (.v sv)))=true:=Z1P hs h
theorem Zey{mp:Bool}{es r c:Nat}{rs:List (List DC)}(h:Zt rs=true):Hp.deep mp es (setC rs r c (.v (ren σ sv)))=renH σ (.deep mp es (setC rs r c (.v sv))):=by simp only[renH,Z4S h]
end
class PlF{α:Type}(f:α->List SV):Prop where
 h:∀x,YK (f x)=true
class Pl(rs:List (List SV)):Prop where
 h:Zh rs=true
class PlD(rs:List (List DC)):Prop where
 h:Zt rs=true
instance {α:Type}{f:α->List SV}[p:PlF f]{l:List α}:Pl (l.map f):=⟨Zz f p.h l⟩
instance :PlF bytesRow:=⟨fun _=>rfl⟩
theorem Ye{m i:Nat}{h:Hp}{O:Hps}(h1:Nat.blt i m=true)(h2:Zg m h=true)(h3:Zl m O=true):Zl m ((i,h)::O)=true:=by simp only[Zl,h1,h2,h3,Bool.and_self]
theorem Z3s{k:IntKind}{a b:Int}(h:a=b):Hp.box [.int k a]=Hp.box [.int k b]:=by rw[h]
theorem Z73{b:Blk}{r es n n':Nat}{lim:Option Nat}(h:n=n'):Hp.box [.sl b r es n lim]=Hp.box [.sl b r es n' lim]:=by rw[h]
section
variable {m es:Nat}{σ τ:Nat->Nat}{rs:List (List SV)}{ds:List (List DC)}{mp:Bool}
theorem WG[p:Pl rs]:Zg m (.rows es rs)=true:=YA m (h:= .rows es rs) p.h
theorem WH[p:Pl rs]:Zg m (.mp rs)=true:=YA m (h:= .mp rs) p.h
theorem Ui[p:PlD ds]:Zg m (.deep mp es ds)=true:=YA m (h:= .deep mp es ds) p.h
theorem Uj{r c:Nat}{sv:SV}[p:PlD ds](h:ZQ m sv=true):Zg m (.deep mp es (setC ds r c (.v sv)))=true:=ZaT p.h h
theorem Z8A{r c:Nat}{sv sv':SV}[p:PlD ds](h:sv'=ren σ sv):Hp.deep mp es (setC ds r c (.v sv'))=renH σ (.deep mp es (setC ds r c (.v sv))):=h▸Zey p.h
theorem renR[p:Pl rs]:renH σ (.rows es rs)= .rows es rs:=Zw σ (h:= .rows es rs) p.h
theorem renM[p:Pl rs]:renH σ (.mp rs)= .mp rs:=Zw σ (h:= .mp rs) p.h
theorem renDp[p:PlD ds]:renH σ (.deep mp es ds)= .deep mp es ds:=Zw σ (h:= .deep mp es ds) p.h
theorem Z74[p:Pl rs]:renH σ (.rows es rs)=renH τ (.rows es rs):=renR.trans renR.symm
theorem Z75[p:Pl rs]:renH σ (.mp rs)=renH τ (.mp rs):=renM.trans renM.symm
theorem Z8B[p:PlD ds]:renH σ (.deep mp es ds)=renH τ (.deep mp es ds):=renDp.trans renDp.symm
end
section
variable {M:Mx}{fr fr':Fr}{O O':Hps}{nx:Nat}
theorem CALL.aA{f:FuncId}{args argsc:List SV}{K:SV->Hps->Nat->Prop}{k:Nat}{Oc Sc:Hps}{Q:SV->Hps->Nat->Prop}(L:List Nat)(sp:Does M.P M.C.T f k argsc Oc Sc Q)
 (hK:∀r O' nx',Q r O' nx'->K (ren (Zi L nx) r) (renO (Zi L nx) O'++ZV ((Za Oc).map (Zi L nx)) O) (nx+(nx'-k)))
 (hL:L.length=k:=by exact rfl) (hLn:L.all (fun i=>Nat.blt i nx)=true:=by exact rfl) (ha:args=renL (Zi L nx) argsc:=by exact rfl) (hb:ZM k argsc=true:=by exact rfl)
 (hbO:Zl k Oc=true:=by(repeat'(first|(refine Ye rfl ?_ ?_)|exact WG|exact WH|exact Ui|exact Uj rfl|rfl))) (hbS:Zl k Sc=true:=by(repeat'(first|(refine Ye rfl ?_ ?_)|exact WG|exact WH|exact Ui|exact Uj rfl|rfl))) (hO:thereO (Zi L nx) O Oc:=by(repeat'(first|exact trivial|(with_reducible rfl)|exact renR.symm|exact Z74|exact renM.symm|exact Z75|exact renDp.symm|exact Z8B|exact Z8A rfl|(exact Zp Pl.h (by simp[X4,List.take_of_length_le]<;>rfl))|exact rfl|((conv=>whnf);refine⟨?_,?_⟩)))) (hS:thereS M.C (Zi L nx) O Sc:=by(repeat'(first|exact trivial|(with_reducible rfl)|exact renR.symm|exact Z74|exact renM.symm|exact Z75|exact renDp.symm|exact Z8B|exact Z8A rfl|(exact Zp Pl.h (by simp[X4,List.take_of_length_le]<;>rfl))|exact rfl|((conv=>whnf);refine⟨?_,?_⟩))))
 (hinj:(Za Oc).all (fun j=>(Za Oc).all fun j'=>!(Nat.beq (Zi L nx j) (Zi L nx j'))||Nat.beq j j')=true:=by exact rfl)
 (hd:(Za Sc).all (fun j=>!((Za Oc).any fun j'=>Nat.beq (Zi L nx j) (Zi L nx j')))=true:=by exact rfl):CALL M f args O nx K:=
 CALL.at L sp hL hLn ha hb hbO hbS hO hS hinj hd hK
theorem CALLE.aA{f:FuncId}{args argsc:List SV}{KP K:SV->Hps->Nat->Prop}{k:Nat}{Oc Sc:Hps}{Q X:SV->Hps->Nat->Prop}(L:List Nat)(sp:DoesE M.P M.C.T f k argsc Oc Sc Q X)
 (hK:∀r O' nx',Q r O' nx'->K (ren (Zi L nx) r) (renO (Zi L nx) O'++ZV ((Za Oc).map (Zi L nx)) O) (nx+(nx'-k)))
 (hX:∀r O' nx',X r O' nx'->KP (ren (Zi L nx) r) (renO (Zi L nx) O'++ZV ((Za Oc).map (Zi L nx)) O) (nx+(nx'-k)))
 (hL:L.length=k:=by exact rfl) (hLn:L.all (fun i=>Nat.blt i nx)=true:=by exact rfl) (ha:args=renL (Zi L nx) argsc:=by exact rfl) (hb:ZM k argsc=true:=by exact rfl)
 (hbO:Zl k Oc=true:=by(repeat'(first|(refine Ye rfl ?_ ?_)|exact WG|exact WH|exact Ui|exact Uj rfl|rfl))) (hbS:Zl k Sc=true:=by(repeat'(first|(refine Ye rfl ?_ ?_)|exact WG|exact WH|exact Ui|exact Uj rfl|rfl))) (hO:thereO (Zi L nx) O Oc:=by(repeat'(first|exact trivial|(with_reducible rfl)|exact renR.symm|exact Z74|exact renM.symm|exact Z75|exact renDp.symm|exact Z8B|exact Z8A rfl|(exact Zp Pl.h (by simp[X4,List.take_of_length_le]<;>rfl))|exact rfl|((conv=>whnf);refine⟨?_,?_⟩)))) (hS:thereS M.C (Zi L nx) O Sc:=by(repeat'(first|exact trivial|(with_reducible rfl)|exact renR.symm|exact Z74|exact renM.symm|exact Z75|exact renDp.symm|exact Z8B|exact Z8A rfl|(exact Zp Pl.h (by simp[X4,List.take_of_length_le]<;>rfl))|exact rfl|((conv=>whnf);refine⟨?_,?_⟩))))
 (hinj:(Za Oc).all (fun j=>(Za Oc).all fun j'=>!(Nat.beq (Zi L nx j) (Zi L nx j'))||Nat.beq j j')=true:=by exact rfl)
 (hd:(Za Sc).all (fun j=>!((Za Oc).any fun j'=>Nat.beq (Zi L nx j) (Zi L nx j')))=true:=by exact rfl):CALLE M f args O nx KP K:=
 CALLE.at L sp hL hLn ha hb hbO hbS hO hS hinj hd hK hX
theorem FIN.aA{k:Nat}{r:SV}{Q:SV->Hps->Nat->Prop}(hk:M.η0.length=k)(τ:List Nat)(rc:SV)(Oc:Hps)(hQ:Q rc Oc (k+τ.length))(hτ:τ.all (fun i=>Nat.blt i nx)=true:=by exact rfl)(hr:r=ren (YM k τ) rc:=by exact rfl)(hb:ZQ (k+τ.length) rc=true:=by exact rfl)(hbO:Zl (k+τ.length) Oc=true:=by(repeat'(first|(refine Ye rfl ?_ ?_)|exact WG|exact WH|exact Ui|exact Uj rfl|rfl)))
 (hO:thereO (YM k τ) O Oc:=by(repeat'(first|exact trivial|(with_reducible rfl)|exact renR.symm|exact Z74|exact renM.symm|exact Z75|exact renDp.symm|exact Z8B|exact Z8A rfl|(exact Zp Pl.h (by simp[X4,List.take_of_length_le]<;>rfl))|exact rfl|((conv=>whnf);refine⟨?_,?_⟩)))) (hinj:(Za Oc).all (fun j=>(Za Oc).all fun j'=>!(Nat.beq (YM k τ j) (YM k τ j'))||Nat.beq j j')=true:=by exact rfl):FIN M O nx r Q:=
 FIN.at hk τ rc Oc hτ hr hb hbO hO hinj hQ
theorem CALL.hA{f:FuncId}{args:List SV}{K:SV->Hps->Nat->Prop}{k:Nat}{Oc Sc:Hps}{Q:SV->Hps->Nat->Prop}(sp:Does M.P M.C.T f k args Oc Sc Q)
 (hQ:∀r O' nx',Q r O' nx'->nx'=k/\ZQ k r=true/\Zl k O'=true) (hK:∀r O',Q r O' k->K r (O'++ZV (Za Oc) O) nx)
 (hk:Nat.ble k nx=true:=by exact rfl) (hb:ZM k args=true:=by exact rfl) (hbO:Zl k Oc=true:=by(repeat'(first|(refine Ye rfl ?_ ?_)|exact WG|exact WH|exact Ui|exact Uj rfl|rfl))) (hbS:Zl k Sc=true:=by(repeat'(first|(refine Ye rfl ?_ ?_)|exact WG|exact WH|exact Ui|exact Uj rfl|rfl))) (hO:hereO O Oc:=by(repeat'(first|exact trivial|exact rfl|((conv=>whnf);refine⟨?_,?_⟩)))) (hS:hereS M.C O Sc:=by(repeat'(first|exact trivial|exact rfl|((conv=>whnf);refine⟨?_,?_⟩))))
 (hd:(Za Sc).all (fun j=>!((Za Oc).any (Nat.beq j)))=true:=by exact rfl):CALL M f args O nx K:=CALL.here sp hk hb hbO hbS hO hS hd hQ hK
theorem GOES.cA{k m:Nat}(hk:M.η0.length=k)(hkm:Nat.ble k m=true:=by exact rfl)(hmn:Nat.ble m nx=true:=by exact rfl)(hbf:Uf m fr'=true:=by exact rfl)(hbo:Zl m O'=true:=by(repeat'(first|(refine Ye rfl ?_ ?_)|exact WG|exact WH|exact Ui|exact Uj rfl|rfl)))
 (hf:cutK fr fr':=by(repeat'(first|(with_reducible rfl)|exact trivial|(exact X6 rfl (by first|omega|(simp(disch:=omega) only[lnB,Z9,Zo]<;>omega)|(simp;done)|(simp<;>omega)))|(exact congrArg (SV.int _) (by first|omega|(simp(disch:=omega) only[lnB,Z9,Zo]<;>omega)|(simp;done)|(simp<;>omega)))|(exact Z3s (by first|omega|(simp(disch:=omega) only[lnB,Z9,Zo]<;>omega)|(simp;done)|(simp<;>omega)))|(exact Z73 (by first|omega|(simp(disch:=omega) only[lnB,Z9,Zo]<;>omega)|(simp;done)|(simp<;>omega)))|exact renR|exact renM|exact renDp|(with_reducible assumption)|(exact congrArg (Hp.rows _) (by simp[List.take_of_length_le]<;>rfl))|((conv=>whnf);refine⟨?_,?_⟩)|(simp;done)|rfl))) (hO:Zcv O O':=by(repeat'(first|(with_reducible rfl)|exact trivial|(exact X6 rfl (by first|omega|(simp(disch:=omega) only[lnB,Z9,Zo]<;>omega)|(simp;done)|(simp<;>omega)))|(exact congrArg (SV.int _) (by first|omega|(simp(disch:=omega) only[lnB,Z9,Zo]<;>omega)|(simp;done)|(simp<;>omega)))|(exact Z3s (by first|omega|(simp(disch:=omega) only[lnB,Z9,Zo]<;>omega)|(simp;done)|(simp<;>omega)))|(exact Z73 (by first|omega|(simp(disch:=omega) only[lnB,Z9,Zo]<;>omega)|(simp;done)|(simp<;>omega)))|exact renR|exact renM|exact renDp|(with_reducible assumption)|(exact congrArg (Hp.rows _) (by simp[List.take_of_length_le]<;>rfl))|((conv=>whnf);refine⟨?_,?_⟩)|(simp;done)|rfl))) (hd:Z1H fr fr'=true:=by exact rfl) (hro:Z1I M.C.ro id m=true:=by exact rfl):GOES M fr O nx fr' O' m:=GOES.cutting hk hkm hmn hbf hbo hf hO hd hro
theorem GOES.kA{k:Nat}(hk:M.η0.length=k)(τ:List Nat)(hτ:τ.all (fun i=>Nat.blt i nx)=true:=by exact rfl)
 (hn:(Za O').all (fun j=>(Za O').all fun j'=>!(Nat.beq (YM k τ j) (YM k τ j'))||Nat.beq j j')=true:=by exact rfl)
 (hbf:Uf (k+τ.length) fr'=true:=by exact rfl) (hbo:Zl (k+τ.length) O'=true:=by(repeat'(first|(refine Ye rfl ?_ ?_)|exact WG|exact WH|exact Ui|exact Uj rfl|rfl))) (hf:subK (YM k τ) fr fr':=by(repeat'(first|(with_reducible rfl)|exact trivial|exact renR.symm|exact Z74|exact renM.symm|exact Z75|exact renDp.symm|exact Z8B|exact Z8A rfl|(exact X6 rfl (by first|omega|(simp(disch:=omega) only[lnB,Z9,Zo]<;>omega)|(simp;done)|(simp<;>omega)))|(exact congrArg (SV.int _) (by first|omega|(simp(disch:=omega) only[lnB,Z9,Zo]<;>omega)|(simp;done)|(simp<;>omega)))|(exact Z3s (by first|omega|(simp(disch:=omega) only[lnB,Z9,Zo]<;>omega)|(simp;done)|(simp<;>omega)))|(exact Z73 (by first|omega|(simp(disch:=omega) only[lnB,Z9,Zo]<;>omega)|(simp;done)|(simp<;>omega)))|(with_reducible assumption)|(exact Zp Pl.h (by simp[X4,List.take_of_length_le]<;>rfl))|((conv=>whnf);refine⟨?_,?_⟩)|(simp only[ren,renB];done)|rfl))) (hO:Zcz (YM k τ) O O':=by(repeat'(first|(with_reducible rfl)|exact trivial|exact renR.symm|exact Z74|exact renM.symm|exact Z75|exact renDp.symm|exact Z8B|exact Z8A rfl|(exact X6 rfl (by first|omega|(simp(disch:=omega) only[lnB,Z9,Zo]<;>omega)|(simp;done)|(simp<;>omega)))|(exact congrArg (SV.int _) (by first|omega|(simp(disch:=omega) only[lnB,Z9,Zo]<;>omega)|(simp;done)|(simp<;>omega)))|(exact Z3s (by first|omega|(simp(disch:=omega) only[lnB,Z9,Zo]<;>omega)|(simp;done)|(simp<;>omega)))|(exact Z73 (by first|omega|(simp(disch:=omega) only[lnB,Z9,Zo]<;>omega)|(simp;done)|(simp<;>omega)))|(with_reducible assumption)|(exact Zp Pl.h (by simp[X4,List.take_of_length_le]<;>rfl))|((conv=>whnf);refine⟨?_,?_⟩)|(simp only[ren,renB];done)|rfl))) (hd:Z1H fr fr'=true:=by exact rfl) (hro:Z1I M.C.ro (YM k τ) (k+τ.length)=true:=by exact rfl):GOES M fr O nx fr' O' (k+τ.length):=
 GOES.keeping hk τ hτ hn hbf hbo hf hO hd hro
end
theorem AU{P Q:Prop}(k:Q)(h:Q->P:=by first|(with_reducible exact IF.tt)|(with_reducible exact IF.ff)|(with_reducible exact GET.at rfl)|(with_reducible exact GETG.at rfl)|((with_reducible refine fun k=>NEED.mk ?_ k);first|with_reducible rfl|omega|(simp(disch:=omega) only[lnB,Z9,Zo]<;>omega)|(intro h;(try simp(disch:=omega) only[hsB,hsC,lnB,Z9,Zo,simprocAttr]at h);(first|omega|(simp(disch:=omega) only[lnB,Z9,Zo]<;>omega)))|(exact Zj 256 rfl rfl (by simp) (by simp) (by omega))|(exact⟨by omega,Z0u (by omega)⟩)|(exact⟨by omega,by omega,Z0u (by omega)⟩)|(simp<;>omega))):P:=h k
theorem IW{J:Type}{b:Bool}{A B:J->Prop}{j:J}{p q:Prop}(x:p->A j)(y:q->B j)
 (hp:b=true->p:=by(intro h;first|(simp(disch:=omega) only[hsB,hsC,lnB,Z9,Zo,simprocAttr]at h;exact h)|(exact(show(0:Nat)=1 by simp(disch:=omega) only[hsB,hsC,lnB,Z9,Zo,simprocAttr]at h))|exact h))
 (hq:b=false->q:=by(intro h;first|(simp(disch:=omega) only[hsB,hsC,lnB,Z9,Zo,simprocAttr]at h;exact h)|(exact(show(0:Nat)=1 by simp(disch:=omega) only[hsB,hsC,lnB,Z9,Zo,simprocAttr]at h))|exact h)):IF b A B j:=⟨fun h=>x (hp h),fun h=>y (hq h)⟩
theorem Zgn{b:Blk}{r es len:Nat}{lim:Option Nat}(h:0<len):Det (.sl b r es len lim):=by
 intro η u u' h1 h2;simp only[Den]at h1 h2;rcases h1 with⟨_,_,h0⟩|⟨e,o,g1,rfl,g3,g4,g5⟩
 ·omega
 rcases h2 with⟨_,_,h0⟩|⟨e',o',k1,rfl,k3,k4,k5⟩
 ·omega
 rw[g1]at k1;injection k1 with k1;injection k1 with k1;subst k1;rw[g5 (.inl (by omega)),k5 (.inl (by omega))]
theorem AD{P Q:Prop}(k:Q)(h:Q->P:=by first|exact fun k=>NEED.mk (Det.of rfl) k|exact fun k=>NEED.mk (Zgn (by omega)) k):P:=h k
end Go.Sx
namespace Go.Our
open Go.Sx
structure Tri{α:Type}(c:α->α->Int):Prop where
 rng:∀a b,c a b= -1\/c a b=0\/c a b=1
 anti:∀a b,c b a= -c a b
 zero:∀a b,c a b=0<->a=b
 trans:∀a b d,c a b<=0->c b d<=0->c a d<=0
def cmpI(a b:Int):Int:=if a<b then-1 else if a>b then 1 else 0
theorem triI:Tri cmpI where
 rng a b:=by unfold cmpI;(repeat' split)<;>omega
 anti a b:=by unfold cmpI;(repeat' split)<;>omega
 zero a b:=by unfold cmpI;(repeat' split)<;>omega
 trans a b d:=by unfold cmpI;(repeat' split)<;>omega
open Lib (compareBytes)
theorem ZfD:∀a b,compareBytes a b= -1\/compareBytes a b=0\/compareBytes a b=1
 | [],[]=>by simp[compareBytes]
 | [],_::_=>by simp[compareBytes]
 |_::_,[]=>by simp[compareBytes]
 |a::as_,b::bs=>by
  unfold compareBytes;split
  ·simp
  ·split
   ·simp
   ·exact ZfD as_ bs
theorem ZcD:∀a b,compareBytes b a= -compareBytes a b
 | [],[]=>by simp[compareBytes]
 | [],_::_=>by simp[compareBytes]
 |_::_,[]=>by simp[compareBytes]
 |a::as_,b::bs=>by
  unfold compareBytes;simp only[UInt8.lt_iff_toNat_lt];by_cases h:a.toNat<b.toNat
  ·have:¬b.toNat<a.toNat:=by omega
   simp[h,this]
  ·by_cases h':b.toNat<a.toNat
   ·simp[h,h']
   ·simp only[h,h',if_false];exact ZcD as_ bs
theorem ZcE:∀a b,compareBytes a b=0<->a=b
 | [],[]=>by simp[compareBytes]
 | [],_::_=>by simp[compareBytes]
 |_::_,[]=>by simp[compareBytes]
 |a::as_,b::bs=>by
  unfold compareBytes;simp only[UInt8.lt_iff_toNat_lt,List.cons.injEq,<-UInt8.toNat_inj];by_cases h:a.toNat<b.toNat
  ·simp[h];omega
  ·by_cases h':b.toNat<a.toNat
   ·simp[h,h'];omega
   ·have:a.toNat=b.toNat:=by omega
    simp only[this,Nat.lt_irrefl,if_false,true_and];exact ZcE as_ bs
theorem Z9P:∀a b c,compareBytes a b<=0->compareBytes b c<=0->compareBytes a c<=0
 | [],_,[]=>by simp[compareBytes]
 | [],_,_::_=>by simp[compareBytes]
 |_::_,[],_=>by simp[compareBytes]
 |_::_,_::_,[]=>by simp[compareBytes]
 |a::as_,b::bs,c::cs=>by
  unfold compareBytes;simp only[UInt8.lt_iff_toNat_lt];have ih:=Z9P as_ bs cs
  (repeat' split)<;>first|omega|(intro x y;first|exact ih x y|omega)
def cmpL(a b:List UInt8):Int:=compareBytes a b
theorem triL:Tri cmpL where
 rng a b:=ZfD _ _
 anti a b:=ZcD _ _
 zero a b:=ZcE _ _
 trans a b d:=Z9P _ _ _
def J0{β γ:Type}(c:β->β->Int)(d:γ->γ->Int)(a b:β×γ):Int:=if c a.1 b.1≠0 then c a.1 b.1 else d a.2 b.2
theorem Wk{β γ:Type}{c:β->β->Int}{d:γ->γ->Int}(hc:Tri c)(hd:Tri d):Tri (J0 c d) where
 rng a b:=by unfold J0;split<;>first|exact hc.rng _ _|exact hd.rng _ _
 anti a b:=by
  unfold J0;rw[hc.anti a.1 b.1,hd.anti a.2 b.2];by_cases h:c a.1 b.1=0
  ·simp[h]
  ·have:¬ -c a.1 b.1=0:=by omega
   simp[h,this]
 zero a b:=by
  unfold J0;by_cases h:c a.1 b.1=0
  ·simp only[h,ne_eq,not_true_eq_false,if_false];rw[hd.zero];have hf:=(hc.zero _ _).1 h;exact⟨fun hg=>Prod.ext hf hg,fun e=>by rw[e]⟩
  ·simp only[ne_eq,h,not_false_eq_true,if_true,false_iff];intro e;subst e;exact h ((hc.zero _ _).2 rfl)
 trans a b e:=by
  unfold J0;intro h1 h2;have r1:=hc.rng a.1 b.1;have r2:=hc.rng b.1 e.1;have t1:=hc.trans a.1 b.1 e.1;by_cases x:c a.1 b.1=0
  ·have ex:=(hc.zero _ _).1 x;simp only[x,ne_eq,not_true_eq_false,if_false]at h1;rw[ex];by_cases y:c b.1 e.1=0
   ·simp only[y,ne_eq,not_true_eq_false,if_false]at h2⊢;exact hd.trans _ _ _ h1 h2
   ·simp only[ne_eq,y,not_false_eq_true,if_true]at h2⊢;exact h2
  ·simp only[ne_eq,x,not_false_eq_true,if_true]at h1;by_cases y:c b.1 e.1=0
   ·have ey:=(hc.zero _ _).1 y;rw[<-ey];simp only[ne_eq,x,not_false_eq_true,if_true];exact h1
   ·simp only[ne_eq,y,not_false_eq_true,if_true]at h2;have hle:=t1 h1 h2
    have hne:c a.1 e.1≠0:=by
     intro hz;have e1:=(hc.zero _ _).1 hz;rw[<-e1]at h2 y;have:=hc.anti a.1 b.1;omega
    simp only[ne_eq,hne,not_false_eq_true,if_true];exact hle
theorem ZcF{α β:Type}{c:β->β->Int}(hc:Tri c)(f:α->β)(hf:∀a b,f a=f b->a=b):Tri (fun a b=>c (f a) (f b)) where
 rng a b:=hc.rng _ _
 anti a b:=hc.anti _ _
 zero a b:=by rw[hc.zero];exact⟨hf a b,fun e=>by rw[e]⟩
 trans a b d:=hc.trans _ _ _
theorem US:∀a b:List UInt8,Op.bytesLess a b=decide (Lib.compareBytes a b<0)
 | [],[]=>by simp[Op.bytesLess,Lib.compareBytes]
 | [],_::_=>by simp[Op.bytesLess,Lib.compareBytes]
 |_::_,[]=>by simp[Op.bytesLess,Lib.compareBytes]
 |a::as_,b::bs=>by
  unfold Op.bytesLess Lib.compareBytes;rw[US as_ bs];simp only[UInt8.lt_iff_toNat_lt]
  have hbeq:(a==b)=decide (a.toNat=b.toNat):=by
   rw[Bool.eq_iff_iff];simp[UInt8.toNat_inj]
  rw[hbeq];by_cases h:a.toNat<b.toNat
  ·simp[h]
  ·by_cases h':b.toNat<a.toNat
   ·have:¬a.toNat=b.toNat:=by omega
    simp[h,h',this]
   ·have:a.toNat=b.toNat:=by omega
    simp[this]
theorem Z76(a b:List UInt8):Zaz a b=decide (cmpL a b<0):=US a b
def Tm.key(x:Tm):Int×List UInt8×List UInt8×List UInt8:=(x.k,x.t,x.y,x.l)
def YI(a b:Tm):Int:=J0 cmpI (J0 cmpL (J0 cmpL cmpL)) a.key b.key
theorem triT:Tri YI:=ZcF (Wk triI (Wk triL (Wk triL triL))) Tm.key (fun a b h=>by
 cases a;cases b;simp[Tm.key]at h;simp[h])
def Qd.key(q:Qd):Tm×Tm×Tm×Tm:=(q.g,q.s,q.p,q.o)
def Xd(a b:Qd):Int:=J0 YI (J0 YI (J0 YI YI)) a.key b.key
theorem triQ:Tri Xd:=ZcF (Wk triT (Wk triT (Wk triT triT))) Qd.key (fun a b h=>by
 cases a;cases b;simp[Qd.key]at h;simp[h])
def orI:List Int->Int
 | []=>0
 |x::l=>if x≠0 then x else orI l
theorem ZfE(a b:Tm):orI [cmpI a.k b.k,cmpL a.t b.t,cmpL a.y b.y,cmpL a.l b.l]=YI a b:=by
 simp only[orI,YI,J0,Tm.key]
 (repeat' split)<;>simp_all
theorem ZfF(a b:Qd):orI [YI a.g b.g,YI a.s b.s,YI a.p b.p,YI a.o b.o]=Xd a b:=by
 simp only[orI,Xd,J0,Qd.key]
 (repeat' split)<;>simp_all
abbrev Qd.row(q:Qd):List SV:=[.int .i64 q.s.k, .str q.s.t, .str q.s.y, .str q.s.l, .int .i64 q.p.k, .str q.p.t, .str q.p.y, .str q.p.l, .int .i64 q.o.k, .str q.o.t, .str q.o.y, .str q.o.l, .int .i64 q.g.k, .str q.g.t, .str q.g.y, .str q.g.l]
def Zd(q:Qd):List SV:=q.row
def ZA(x:Tm):List SV:=[.int .i64 x.k, .str x.t, .str x.y, .str x.l]
theorem Z7(l:List Tm):Zh (l.map ZA)=true:=Zz _ (fun _=>rfl) l
instance :PlF ZA:=⟨fun _=>rfl⟩
theorem Tm.ext'{a b:Tm}(h:ZA a=ZA b):a=b:=by
 obtain⟨_,_,_,_⟩:=a;obtain⟨_,_,_,_⟩:=b;simp only[ZA,List.cons.injEq,SV.int.injEq,SV.str.injEq,true_and,and_true]at h
 simp_all
def Z77:Qd:=⟨ZE,ZE,ZE,ZE⟩
theorem Xb(l:List Qd):Zh (l.map Zd)=true:=Zz _ (fun _=>rfl) l
instance :PlF Zd:=⟨fun _=>rfl⟩
theorem Z78{l:List Qd}{i:Nat}(h:i<l.length):(l.map Zd)[i]?=some (Zd l[i]):=by rw[List.getElem?_map,List.getElem?_eq_getElem h];rfl
theorem ZcG{α:Type}(f:α->List SV)(l z:List α):(((l++z).map f).drop 0).take l.length=l.map f:=by
 rw[List.drop_zero,List.map_append,List.take_append_of_le_length (by simp),List.take_of_length_le (by simp)]
theorem Z9Q{α:Type}(f:α->List SV)(l:List α)(i:Nat)(x:α):(l.map f).set i (f x)=(l.set i x).map f:=by rw[List.map_set]
theorem Z5G{α:Type}{f:α->List SV}{l:List α}{i j:Nat}(h:i<l.length)(hj:j=i):(l.map f)[j]?=some (f l[i]):=by
 subst hj;rw[List.getElem?_map,List.getElem?_eq_getElem h];rfl
theorem Qd.ext'{a b:Qd}(h:Zd a=Zd b):a=b:=by
 obtain⟨⟨_,_,_,_⟩,⟨_,_,_,_⟩,⟨_,_,_,_⟩,⟨_,_,_,_⟩⟩:=a;obtain⟨⟨_,_,_,_⟩,⟨_,_,_,_⟩,⟨_,_,_,_⟩,⟨_,_,_,_⟩⟩:=b;simp only[Zd,Qd.row,List.cons.injEq,SV.int.injEq,SV.str.injEq,true_and,and_true]at h
 simp_all
end Go.Our
set_option linter.unusedSectionVars false
namespace Go.Our
section
variable {α:Type}{c:α->α->Int}
theorem Tri.lt_trans(h:Tri c){x y z:α}(h1:c x y<0)(h2:c y z<=0):c x z<0:=by
 have h3:=h.trans x y z (by omega) h2;rcases Int.lt_or_eq_of_le h3 with h4|h4
 ·exact h4
 ·have e:=(h.zero x z).1 h4;subst e;have:=h.anti x y;omega
theorem Tri.le_lt(h:Tri c){x y z:α}(h1:c x y<=0)(h2:c y z<0):c x z<0:=by
 have h3:=h.trans x y z h1 (by omega);rcases Int.lt_or_eq_of_le h3 with h4|h4
 ·exact h4
 ·have e:=(h.zero x z).1 h4;subst e;have:=h.anti x y;omega
theorem Tri.self(h:Tri c)(x:α):c x x=0:=(h.zero x x).2 rfl
theorem Tri.ne(h:Tri c){x y:α}(hl:c x y<0):x≠y:=fun e=>by subst e;have:=h.self x;omega
theorem Tri.gt(h:Tri c){x y:α}(hl:¬c x y<=0):c y x<0:=by have:=h.anti x y;omega
def Rise(c:α->α->Int)(l:List α):Prop:=l.Pairwise fun a b=>c a b<0
theorem Z9R(h:Tri c):∀{l m:List α},Rise c l->Rise c m->(∀x,x∈l<->x∈m)->l=m
 | [],[],_,_,_=>rfl
 | [],y::m,_,_,he=>by have:=(he y).2 (by simp);simp at this
 |x::l,[],_,_,he=>by have:=(he x).1 (by simp);simp at this
 |x::l,y::m,hl,hm,he=>by
  have hl:=List.pairwise_cons.1 hl;have hm:=List.pairwise_cons.1 hm
  have hxy:x=y:=by
   rcases List.mem_cons.1 ((he x).1 (by simp))with e|hx
   ·exact e
   ·rcases List.mem_cons.1 ((he y).2 (by simp))with e|hy
    ·exact e.symm
    ·have h1:=hm.1 x hx;have h2:=hl.1 y hy;have:=h.anti x y;omega
  subst hxy;congr 1;refine Z9R h hl.2 hm.2 fun z=>⟨fun hz=>?_,fun hz=>?_⟩
  ·rcases List.mem_cons.1 ((he z).1 (by simp[hz]))with e|h1
   ·subst e;exact(h.ne (hl.1 _ hz) rfl).elim
   ·exact h1
  ·rcases List.mem_cons.1 ((he z).2 (by simp[hz]))with e|h1
   ·subst e;exact(h.ne (hm.1 _ hz) rfl).elim
   ·exact h1
end
section
variable {α:Type}[DecidableEq α]{c:α->α->Int}
def Z5:List α->List α
 | []=>[]
 | [a]=>[a]
 |a::b::l=>if a=b then Z5 (b::l)else a::Z5 (b::l)
theorem Uk:∀(l:List α) (x:α),x∈Z5 l<->x∈l
 | [],x=>by simp[Z5]
 | [a],x=>by simp[Z5]
 |a::b::l,x=>by
  have ih:=Uk (b::l) x;unfold Z5;split
  ·rename_i e;subst e;rw[ih];simp
  ·rw[List.mem_cons,ih];simp[List.mem_cons]
def leC(c:α->α->Int)(x y:α):Bool:=!(decide (c y x<0))
theorem UT(h:Tri c){x y:α}:leC c x y=true<->c x y<=0:=by
 have:=h.anti x y;unfold leC;simp only[Bool.not_eq_true',decide_eq_false_iff_not];omega
theorem UU(h:Tri c):∀(l:List α),l.Pairwise (fun a b=>c a b<=0)->Rise c (Z5 l)
 | [],_=>List.Pairwise.nil
 | [a],_=>by simp[Z5,Rise]
 |a::b::l,hp=>by
  have hp':=List.pairwise_cons.1 hp;have ih:=UU h (b::l) hp'.2;unfold Z5;split
  ·exact ih
  ·rename_i hne;refine List.pairwise_cons.2 ⟨fun x hx=>?_,ih⟩;rw[Uk]at hx
   have hab:c a b<0:=by
    have h1:=hp'.1 b (by simp);have h2:c a b≠0:=fun e=>hne ((h.zero a b).1 e);omega
   rcases List.mem_cons.1 hx with rfl|hx
   ·exact hab
   ·exact h.lt_trans hab ((List.pairwise_cons.1 hp'.2).1 x hx)
def setL(c:α->α->Int)(l:List α):List α:=Z5 (l.mergeSort (leC c))
theorem Ul(l:List α)(x:α):x∈setL c l<->x∈l:=by
 unfold setL;rw[Uk];exact List.mem_mergeSort
theorem J1(h:Tri c)(l:List α):Rise c (setL c l):=by
 refine UU h _ ?_
 have:=List.pairwise_mergeSort (le:=leC c) (fun a b d h1 h2=>by rw[UT h]at*;exact h.trans a b d h1 h2) (fun a b=>by
  have:=h.anti a b
  rw[Bool.or_eq_true,UT h,UT h];omega) l
 exact this.imp fun h1=>(UT h).1 h1
theorem ZfG(h:Tri c){l m:List α}(hm:Rise c m)(he:∀x,x∈m<->x∈l):m=setL c l:=Z9R h hm (J1 h l) fun x=>(he x).trans (Ul l x).symm
theorem Z07:∀(l:List α),(Z5 l).length<=l.length
 | []=>by simp[Z5]
 | [a]=>by simp[Z5]
 |a::b::l=>by
  have ih:=Z07 (b::l);unfold Z5;split
  ·simp only[List.length_cons]at ih⊢;omega
  ·simp only[List.length_cons]at ih⊢;omega
theorem Z5H(l:List α):(setL c l).length<=l.length:=by
 have:=Z07 (l.mergeSort (leC c));rw[List.length_mergeSort]at this;exact this
def UV(c:α->α->Int)(out:List α)(q:α):List α:=match out.getLast? with
 |none=>[q]
 |some z=>if c z q<0 then out++ [q]else out
def JO(c:α->α->Int)(out:List α):List α->List α->List α
 | [],[]=>out
 |x::a,[]=>JO c (UV c out x) a []
 | [],y::b=>JO c (UV c out y) [] b
 |x::a,y::b=>if c x y<=0 then JO c (UV c out x) a (y::b)else JO c (UV c out y) (x::a) b
termination_by a b=>a.length+b.length
theorem Jx(h:Tri c){out:List α}{q:α}(ho:Rise c out)(hq:∀x∈out,c x q<=0):Rise c (UV c out q)/\∀x,x∈UV c out q<->x∈out\/x=q:=by
 unfold UV;cases hg:out.getLast? with
 |none=>
  have:out=[]:=List.getLast?_eq_none_iff.1 hg;subst this;exact⟨by simp[Rise],by simp⟩
 |some z=>
  obtain⟨pre,rfl⟩:=List.getLast?_eq_some_iff.1 hg;simp only;have ho':=List.pairwise_append.1 ho;split
  ·rename_i hz;refine⟨List.pairwise_append.2 ⟨ho,List.pairwise_singleton ..,fun x hx y hy=>?_⟩,fun x=>by simp only[List.mem_append,List.mem_singleton]⟩;have hy:=List.mem_singleton.1 hy;subst hy;rcases List.mem_append.1 hx with hx|hx
   ·exact h.lt_trans (ho'.2.2 x hx z (by simp)) (by omega)
   ·have:=List.mem_singleton.1 hx;subst this;exact hz
  ·rename_i hz;have he:z=q:=(h.zero z q).1 (by have:=hq z (by simp);omega);subst he;exact⟨ho,fun x=>by simp only[List.mem_append,List.mem_singleton];grind⟩
theorem V8(h:Tri c):∀(n:Nat) (out a b:List α),a.length+b.length=n->Rise c out->Rise c a->Rise c b->(∀x∈out,∀y,y∈a\/y∈b->c x y<=0)->Rise c (JO c out a b)/\∀x,x∈JO c out a b<->x∈out\/x∈a\/x∈b
 |n,out,[],[],hn,ho,ha,hb,hh=>by unfold JO;exact⟨ho,by simp⟩
 |0,out,x::a,b,hn,_,_,_,_=>by simp at hn
 |0,out,[],y::b,hn,_,_,_,_=>by simp at hn
 |n+1,out,x::a,[],hn,ho,ha,hb,hh=>by
  have ha':=List.pairwise_cons.1 ha;obtain⟨h1,h2⟩:=Jx h ho (q:=x) fun z hz=>hh z hz x (by simp)
  obtain⟨h3,h4⟩:=V8 h n (UV c out x) a [] (by simp at hn⊢;omega) h1 ha'.2 hb (fun z hz y hy=>by
   rcases(h2 z).1 hz with hz|rfl
   ·exact hh z hz y (by simpa using Or.inr (by simpa using hy))
   ·have:y∈a:=by simpa using hy
    have:=ha'.1 y this;omega)
  unfold JO;refine⟨h3,fun z=>?_⟩;rw[h4,h2];simp only[List.mem_cons,List.not_mem_nil,or_false]
  grind
 |n+1,out,[],y::b,hn,ho,ha,hb,hh=>by
  have hb':=List.pairwise_cons.1 hb;obtain⟨h1,h2⟩:=Jx h ho (q:=y) fun z hz=>hh z hz y (by simp)
  obtain⟨h3,h4⟩:=V8 h n (UV c out y) [] b (by simp at hn⊢;omega) h1 ha hb'.2 (fun z hz w hw=>by
   have hw:w∈b:=by simpa using hw
   rcases(h2 z).1 hz with hz|rfl
   ·exact hh z hz w (by simp[hw])
   ·have:=hb'.1 w hw;omega)
  unfold JO;refine⟨h3,fun z=>?_⟩;rw[h4,h2];simp only[List.mem_cons,List.not_mem_nil,false_or]
  grind
 |n+1,out,x::a,y::b,hn,ho,ha,hb,hh=>by
  have ha':=List.pairwise_cons.1 ha;have hb':=List.pairwise_cons.1 hb;unfold JO;split
  ·rename_i hxy;obtain⟨h1,h2⟩:=Jx h ho (q:=x) fun z hz=>hh z hz x (by simp)
   obtain⟨h3,h4⟩:=V8 h n (UV c out x) a (y::b) (by simp at hn⊢;omega) h1 ha'.2 hb (fun z hz w hw=>by
    rcases(h2 z).1 hz with hz|rfl
    ·exact hh z hz w (by rcases hw with hw|hw<;>simp[hw]<;>simp at hw<;>simp[hw])
    ·rcases hw with hw|hw
     ·have:=ha'.1 w hw;omega
     ·rcases List.mem_cons.1 hw with rfl|hw
      ·exact hxy
      ·exact h.trans _ _ _ hxy (by have:=hb'.1 w hw;omega))
   refine⟨h3,fun z=>?_⟩;rw[h4,h2];simp only[List.mem_cons]
   grind
  ·rename_i hxy;have hyx:=h.gt hxy;obtain⟨h1,h2⟩:=Jx h ho (q:=y) fun z hz=>hh z hz y (by simp)
   obtain⟨h3,h4⟩:=V8 h n (UV c out y) (x::a) b (by simp at hn⊢;omega) h1 ha hb'.2 (fun z hz w hw=>by
    rcases(h2 z).1 hz with hz|rfl
    ·exact hh z hz w (by rcases hw with hw|hw<;>simp[hw]<;>simp at hw<;>simp[hw])
    ·rcases hw with hw|hw
     ·rcases List.mem_cons.1 hw with rfl|hw
      ·omega
      ·exact h.trans _ x _ (by omega) (by have:=ha'.1 w hw;omega)
     ·have:=hb'.1 w hw;omega)
   refine⟨h3,fun z=>?_⟩;rw[h4,h2];simp only[List.mem_cons]
   grind
end
end Go.Our
namespace Go.Our
section
variable {α:Type}{c:α->α->Int}
theorem Z9S:Rise c ([]:List α):=List.Pairwise.nil
def wanted(f b s p q:Prop):Prop:=(f/\p/\¬q)\/(b/\p/\q)\/(s/\¬p/\q)
end
section
variable {α:Type}[DecidableEq α]{c:α->α->Int}
theorem ZaU(h:Tri c){xs ys l:List α}(hx:Rise c xs)(hy:Rise c ys)(hl:∀z,z∈l<->z∈xs\/z∈ys):JO c [] xs ys=setL c l:=by
 obtain⟨h1,h2⟩:=V8 h _ [] xs ys rfl Z9S hx hy (by simp);exact ZfG h h1 fun z=>by rw[h2,hl];simp
theorem Jy:∀{l:List α} {i:Nat} (h0:1<=i) (h:i<l.length),Z5 (l.take (i+1))=if l[i]=l[i-1]'(by omega)then Z5 (l.take i)else Z5 (l.take i)++ [l[i]]
 | [],i,_,h=>by simp at h
 | [a],i,h0,h=>by simp at h;omega
 |a::b::l,0,h0,h=>by omega
 |a::b::l,1,h0,h=>by
  simp only[List.take_succ_cons,List.take_zero,Z5,List.getElem_cons_succ,List.getElem_cons_zero,Nat.sub_self];by_cases e:a=b
  ·subst e;simp
  ·rw[if_neg e,if_neg (fun h=>e h.symm)];rfl
 |a::b::l,i+2,h0,h=>by
  have hi:i+1< (b::l).length:=by simpa using h
  have ih:=Jy (l:=b::l) (i:=i+1) (by omega) hi;have e2:(a::b::l)[i+2-1]'(by simp at h⊢;omega)=(b::l)[i+1-1]'(by simp at h⊢;omega):=rfl;have e3:(a::b::l)[i+2]=(b::l)[i+1]:=rfl;rw[e2,e3];simp only[List.take_succ_cons,Z5]at ih⊢;by_cases e:a=b
  ·simp only[if_pos e];exact ih
  ·simp only[if_neg e,ih];split<;>simp
theorem Z08{l:List α}(h:l.length<2):Z5 l=l:=by
 match l,h with
 | [],_=>rfl
 | [a],_=>rfl
theorem Z3t{l:List α}:Z5 (l.take 1)=l.take 1:=Z08 (by simp;omega)
end
section
variable {α:Type}[DecidableEq α]{c:α->α->Int}
def Z24(out:List α)(q:α):List α:=match out.getLast? with
 |none=>[q]
 |some z=>if z≠q then out++ [q]else out
def Yr(c:α->α->Int)(out:List α):List α->List α->List α
 | [],[]=>out
 |x::a,[]=>Yr c (Z24 out x) a []
 | [],y::b=>Yr c (Z24 out y) [] b
 |x::a,y::b=>if c x y<=0 then Yr c (Z24 out x) a (y::b)else Yr c (Z24 out y) (x::a) b
termination_by a b=>a.length+b.length
theorem Z2j(h:Tri c){out:List α}{q:α}(hq:∀x∈out,c x q<=0):Z24 out q=UV c out q:=by
 unfold Z24 UV;cases hg:out.getLast? with
 |none=>rfl
 |some z=>
  have hz:z∈out:=List.mem_of_getLast? hg;have:=hq z hz;simp only;by_cases e:z=q
  ·subst e;have:=h.self z;rw[if_neg (by simp),if_neg (by omega)]
  ·have:c z q≠0:=fun e2=>e ((h.zero z q).1 e2);rw[if_pos e,if_pos (by omega)]
theorem UW(h:Tri c):∀(n:Nat) (out a b:List α),a.length+b.length=n->Rise c out->Rise c a->Rise c b->(∀x∈out,∀y,y∈a\/y∈b->c x y<=0)->Yr c out a b=JO c out a b
 |n,out,[],[],hn,ho,ha,hb,hh=>by unfold Yr JO;rfl
 |0,out,x::a,b,hn,_,_,_,_=>by simp at hn
 |0,out,[],y::b,hn,_,_,_,_=>by simp at hn
 |n+1,out,x::a,[],hn,ho,ha,hb,hh=>by
  have ha':=List.pairwise_cons.1 ha;obtain⟨h1,h2⟩:=Jx h ho (q:=x) fun z hz=>hh z hz x (by simp);unfold Yr JO;rw[Z2j h fun z hz=>hh z hz x (by simp)]
  exact UW h n (UV c out x) a [] (by simp at hn⊢;omega) h1 ha'.2 hb (fun z hz y hy=>by
   rcases(h2 z).1 hz with hz|rfl
   ·exact hh z hz y (by simpa using Or.inr (by simpa using hy))
   ·have:y∈a:=by simpa using hy
    have:=ha'.1 y this;omega)
 |n+1,out,[],y::b,hn,ho,ha,hb,hh=>by
  have hb':=List.pairwise_cons.1 hb;obtain⟨h1,h2⟩:=Jx h ho (q:=y) fun z hz=>hh z hz y (by simp);unfold Yr JO;rw[Z2j h fun z hz=>hh z hz y (by simp)]
  exact UW h n (UV c out y) [] b (by simp at hn⊢;omega) h1 ha hb'.2 (fun z hz w hw=>by
   have hw:w∈b:=by simpa using hw
   rcases(h2 z).1 hz with hz|rfl
   ·exact hh z hz w (by simp[hw])
   ·have:=hb'.1 w hw;omega)
 |n+1,out,x::a,y::b,hn,ho,ha,hb,hh=>by
  have ha':=List.pairwise_cons.1 ha;have hb':=List.pairwise_cons.1 hb;unfold Yr JO;split
  ·rename_i hxy;obtain⟨h1,h2⟩:=Jx h ho (q:=x) fun z hz=>hh z hz x (by simp);rw[Z2j h fun z hz=>hh z hz x (by simp)]
   exact UW h n (UV c out x) a (y::b) (by simp at hn⊢;omega) h1 ha'.2 hb (fun z hz w hw=>by
    rcases(h2 z).1 hz with hz|rfl
    ·exact hh z hz w (by rcases hw with hw|hw<;>simp[hw]<;>simp at hw<;>simp[hw])
    ·rcases hw with hw|hw
     ·have:=ha'.1 w hw;omega
     ·rcases List.mem_cons.1 hw with rfl|hw
      ·exact hxy
      ·exact h.trans _ _ _ hxy (by have:=hb'.1 w hw;omega))
  ·rename_i hxy;have hyx:=h.gt hxy;obtain⟨h1,h2⟩:=Jx h ho (q:=y) fun z hz=>hh z hz y (by simp);rw[Z2j h fun z hz=>hh z hz y (by simp)]
   exact UW h n (UV c out y) (x::a) b (by simp at hn⊢;omega) h1 ha hb'.2 (fun z hz w hw=>by
    rcases(h2 z).1 hz with hz|rfl
    ·exact hh z hz w (by rcases hw with hw|hw<;>simp[hw]<;>simp at hw<;>simp[hw])
    ·rcases hw with hw|hw
     ·rcases List.mem_cons.1 hw with rfl|hw
      ·omega
      ·exact h.trans _ x _ (by omega) (by have:=ha'.1 w hw;omega)
     ·have:=hb'.1 w hw;omega)
def Wy(c:α->α->Int)(l:List α):List α:=if l.length<2 then l else Yr c [] (Wy c (l.take (l.length/2))) (Wy c (l.drop (l.length/2)))
termination_by l.length
decreasing_by
 ·simp only[List.length_take];omega
 ·simp only[List.length_drop];omega
theorem Z0x(h:Tri c):∀(n:Nat) (l:List α),l.length<=n->Wy c l=setL c l
 |0,l,hn=>by
  have:l=[]:=List.length_eq_zero_iff.1 (by omega);subst this;unfold Wy;simp[setL,Z5]
 |n+1,l,hn=>by
  unfold Wy;split
  ·match l with
   | []=>simp[setL,Z5]
   | [x]=>simp[setL,Z5]
   |x::y::l=>simp at*;omega
  ·rw[Z0x h n _ (by simp;omega),Z0x h n _ (by simp;omega),UW h _ _ _ _ rfl Z9S (J1 h _) (J1 h _) (by simp)];refine ZaU h (J1 h _) (J1 h _) fun z=>?_;rw[Ul,Ul,<-List.mem_append,List.take_append_drop]
theorem Zgo{β:Type}[DecidableEq β]{d:β->β->Int}(h:Tri c)(h':Tri d)(f:α->β)(hf:∀x y,d (f x) (f y)=c x y)(l:List α):(setL c l).map f=setL d (l.map f):=by
 refine ZfG h' ?_ fun y=>?_
 ·have:=J1 h l;unfold Rise at this⊢;rw[List.pairwise_map];exact this.imp fun{a b} hab=>by rw[hf];exact hab
 ·simp only[List.mem_map,Ul]
end
def Zx(t:Tm):List (List UInt8):=if t.k=2 then [t.t]else []
def Zv(q:Qd):List (List UInt8):=Zx q.s++Zx q.p++Zx q.o++Zx q.g
def ZR(l:List Qd):List (List UInt8):=l.flatMap Zv
def Yf(s:List UInt8):Tm:=⟨2,s,[],[]⟩
theorem ZcH(x y:List UInt8):YI (Yf x) (Yf y)=cmpL x y:=by
 have h1:cmpI 2 2=0:=by decide
 have h2:cmpL ([]:List UInt8) []=0:=triL.self [];simp only[YI,Yf,Tm.key,J0,h1,h2];split<;>simp_all
theorem ZaV(l:List (List UInt8)):(setL YI (l.map Yf)).map Tm.t=setL cmpL l:=by
 rw[<-Zgo triL triT Yf ZcH,List.map_map];conv=>rhs;rw[<-List.map_id (setL cmpL l)]
 rfl
abbrev Pr:=List UInt8×List UInt8
end Go.Our
namespace Go.Our
open Go.Sx
structure KeyK(α:Type)[DecidableEq α] where
 ks:Bool×List CK
 enc:α->SV
 is:∀a b,WY ks (enc a) (enc b)=decide (a=b)
 ok:∀a,JF ks (enc a)=true
 pl:∀a,plain (enc a)=true
section
variable {α β:Type}[DecidableEq α](K:KeyK α)
def Um(f:β->SV)(l:List (α×β)):List (List SV):=l.map fun p=>[K.enc p.1,f p.2]
def X1(es:Nat)(f:β->List (List SV))(l:List (α×β)):List (List DC):=l.map fun p=>[.v (K.enc p.1), .kid es (f p.2)]
def ixA(a:α):List (α×β)->Option (Nat×β)
 | []=>none
 |(k,v)::r=>if a=k then some (0,v)else(ixA a r).map fun p=>(p.1+1,p.2)
def getA(a:α):List (α×β)->Option β
 | []=>none
 |(k,v)::r=>if a=k then some v else getA a r
def setA(a:α)(v:β):List (α×β)->List (α×β)
 | []=>[(a,v)]
 |(k,u)::r=>if a=k then(k,v)::r else(k,u)::setA a v r
theorem Z8C(a:α):∀l:List (α×β),(ixA a l).map Prod.snd=getA a l
 | []=>rfl
 |(k,v)::r=>by
  unfold ixA getA;split
  ·rfl
  ·rw[Option.map_map,<-Z8C a r];rfl
theorem XD{a:α}{l:List (α×β)}(h:ixA a l=none):getA a l=none:=by rw[<-Z8C,h];rfl
theorem Z0y{a:α}{l:List (α×β)}{i:Nat}{v:β}(h:ixA a l=some (i,v)):getA a l=some v:=by rw[<-Z8C,h];rfl
theorem Z2k(a b:α)(v:β):∀l:List (α×β),getA b (setA a v l)=if b=a then some v else getA b l
 | []=>by
   simp only[setA,getA]
 |(k,u)::r=>by
  unfold setA;by_cases h:a=k
  ·subst h;rw[if_pos rfl];simp only[getA];by_cases e:b=a
   ·rw[if_pos e,if_pos e]
   ·rw[if_neg e,if_neg e,if_neg e]
  ·rw[if_neg h];simp only[getA,Z2k a b v r];by_cases e:b=k
   ·subst e;rw[if_pos rfl,if_neg (fun e=>h e.symm),if_pos rfl]
   ·rw[if_neg e,if_neg e]
theorem Z5I(f:β->SV)(a:α):∀(l:List (α×β)) (i:Nat),Xz K.ks (K.enc a) i (Um K f l)=(ixA a l).map fun p=>(i+p.1,f p.2)
 | [],i=>rfl
 |(k,v)::r,i=>by
  have ih:=Z5I f a r (i+1);simp only[Um,List.map_cons,Xz,K.is,ixA]at ih⊢;by_cases h:a=k
  ·simp[h]
  ·simp only[h,decide_false,if_false,ih,Option.map_map];congr 1;funext p;simp only[Function.comp,Prod.mk.injEq,and_true];omega
theorem Xq(f:β->SV)(l:List (α×β)):JN K.ks (Um K f l):=by
 intro r hr;obtain⟨p,_,rfl⟩:=List.mem_map.1 hr;exact⟨_,_,rfl,K.ok _⟩
theorem Wl{a:α}{v:β}:∀{l:List (α×β)} {i:Nat} {u:β},ixA a l=some (i,u)->setA a v l=l.modify i (fun p=>(p.1,v))
 | [],_,_,h=>by cases h
 |(k,w)::r,i,u,h=>by
  unfold ixA at h;unfold setA;split at h
  ·rename_i e;injection h with h;injection h with h1 h2;subst h1;rw[if_pos e,List.modify_zero_cons]
  ·rename_i e;obtain⟨⟨j,x⟩,hj,he⟩:=Option.map_eq_some_iff.1 h;injection he with h1 h2;subst h1;rw[if_neg e,List.modify_succ_cons,Wl hj]
theorem Z3u{a:α}{v:β}:∀{l:List (α×β)},ixA a l=none->setA a v l=l++ [(a,v)]
 | [],_=>rfl
 |(k,w)::r,h=>by
  unfold ixA at h;unfold setA;split at h
  ·cases h
  ·rename_i e;rw[if_neg e,List.cons_append,Z3u (by simpa using h)]
theorem ZcI(f:β->SV)(a:α)(v:β)(l:List (α×β)):setM K.ks (K.enc a) (f v) (Um K f l)=Um K f (setA a v l):=by
 unfold setM;rw[Z5I];cases h:ixA a l with
 |none=>simp only[Option.map_none];rw[Z3u h];simp[Um]
 |some p=>
  obtain⟨i,u⟩:=p;simp only[Option.map_some,Nat.zero_add];rw[Wl h];unfold Um;apply List.ext_getElem?;intro j;rw[List.getElem?_modify,List.getElem?_map,List.getElem?_map,List.getElem?_modify];by_cases e:i=j
  ·subst e;cases l[i]?<;>simp[putV]
  ·cases l[j]?<;>simp[e]
theorem Z8D(f:β->SV)(hf:∀b,plain (f b)=true)(l:List (α×β)):Zh (Um K f l)=true:=by
 unfold Um;exact Zz _ (fun p=>by simp only[YK,K.pl,hf,Bool.and_self]) l
theorem Z16(es:Nat)(f:β->List (List SV))(a:α):∀(l:List (α×β)) (i:Nat),findD K.ks (K.enc a) i (X1 K es f l)=(ixA a l).map fun p=>(i+p.1, .kid es (f p.2))
 | [],i=>rfl
 |(k,v)::r,i=>by
  have ih:=Z16 es f a r (i+1);simp only[X1,List.map_cons,findD,ZN,K.is,ixA]at ih⊢;by_cases h:a=k
  ·simp[h]
  ·simp only[h,decide_false,if_false,ih,Option.map_map];congr 1;funext p;simp only[Function.comp,Prod.mk.injEq,and_true];omega
theorem Z79(es:Nat)(f:β->List (List SV))(l:List (α×β)):JN K.ks (Zs (X1 K es f l)):=by
 intro r hr;unfold Zs X1 at hr;rw[List.map_map]at hr;obtain⟨p,_,rfl⟩:=List.mem_map.1 hr;exact⟨_,_,rfl,K.ok _⟩
theorem ZhI(es:Nat)(f:β->List (List SV))(a:α)(v:β)(l:List (α×β)):setD K.ks (K.enc a) (.kid es (f v)) (X1 K es f l)=X1 K es f (setA a v l):=by
 unfold setD;rw[Z16];cases h:ixA a l with
 |none=>simp only[Option.map_none];rw[Z3u h];simp[X1]
 |some p=>
  obtain⟨i,u⟩:=p;simp only[Option.map_some,Nat.zero_add];rw[Wl h];unfold X1;apply List.ext_getElem?;intro j;rw[List.getElem?_modify,List.getElem?_map,List.getElem?_map,List.getElem?_modify];by_cases e:i=j
  ·subst e;cases l[i]?<;>simp[putD]
  ·cases l[j]?<;>simp[e]
theorem Z8E{a:α}:∀{l:List (α×β)} {i:Nat} {u:β},ixA a l=some (i,u)->l[i]?=some (a,u)
 | [],i,u,h=>by cases h
 |(k,w)::l,i,u,h=>by
  unfold ixA at h;split at h
  ·rename_i e;injection h with h;injection h with h1 h2;subst h1 h2 e
   rfl
  ·obtain⟨⟨j,x⟩,hj,he⟩:=Option.map_eq_some_iff.1 h;injection he with h1 h2;subst h1 h2;simpa using Z8E hj
theorem Zgp(es:Nat)(f:β->List (List SV))(d:DC){a:α}{v:β}{l:List (α×β)}{i j:Nat}{u:β}(h:ixA a l=some (i,u))(hj:j=i):((X1 K es f l).modify i (putD d)).modify j (putD (.kid es (f v)))=X1 K es f (setA a v l):=by
 subst hj;rw[Wl h];unfold X1;apply List.ext_getElem?;intro k;rw[List.getElem?_modify,List.getElem?_modify,List.getElem?_map,List.getElem?_map,List.getElem?_modify];by_cases e:j=k
 ·subst e;rw[Z8E h];simp[putD]
 ·cases l[k]?<;>simp[e]
theorem Z9T(es:Nat)(f:β->List (List SV))(hf:∀b,Zh (f b)=true):∀l:List (α×β),Zt (X1 K es f l)=true
 | []=>rfl
 |p::l=>by
  have ih:=Z9T es f hf l;unfold X1 at ih⊢;simp only[List.map_cons,Zt,Ys,JL,K.pl,hf,ih,Bool.and_self]
end
section
variable {α β:Type}[DecidableEq α]
theorem FIND.A(K:KeyK α)(f:β->SV)(a:α)(l:List (α×β)){J:Type}{A:Nat->SV->J->Prop}{B:J->Prop}{j:J}(hs:∀i v,ixA a l=some (i,v)->A (0+i) (f v) j)(hn:ixA a l=none->B j):FIND (Xz K.ks (K.enc a) 0 (Um K f l)) A B j:=by
 refine FIND.mk (fun i v hf=>?_) (fun hf=>?_)
 ·obtain⟨⟨k,x⟩,hj,he⟩:=Option.map_eq_some_iff.1 ((Z5I K f a l 0).symm.trans hf);cases he
  exact hs _ _ hj
 ·exact hn (Option.map_eq_none_iff.1 ((Z5I K f a l 0).symm.trans hf))
theorem FINDD.A(K:KeyK α)(es:Nat)(f:β->List (List SV))(a:α)(l:List (α×β)){J:Type}{A:Nat->DC->J->Prop}{B:J->Prop}{j:J}(hs:∀i v,ixA a l=some (i,v)->A (0+i) (.kid es (f v)) j)(hn:ixA a l=none->B j):FINDD (findD K.ks (K.enc a) 0 (X1 K es f l)) A B j:=by
 refine FINDD.mk (fun i v hf=>?_) (fun hf=>?_)
 ·obtain⟨⟨k,x⟩,hj,he⟩:=Option.map_eq_some_iff.1 ((Z16 K es f a l 0).symm.trans hf);cases he
  exact hs _ _ hj
 ·exact hn (Option.map_eq_none_iff.1 ((Z16 K es f a l 0).symm.trans hf))
end
def KQ:KeyK Qd where
 ks:=(true,[.int .i64, .str, .str, .str, .int .i64, .str, .str, .str, .int .i64, .str, .str, .str, .int .i64, .str, .str, .str])
 enc:=Qd.sv
 is a b:=by
  obtain⟨⟨a1,a2,a3,a4⟩,⟨a5,a6,a7,a8⟩,⟨a9,b1,b2,b3⟩,⟨b4,b5,b6,b7⟩⟩:=a;obtain⟨⟨c1,c2,c3,c4⟩,⟨c5,c6,c7,c8⟩,⟨c9,d1,d2,d3⟩,⟨d4,d5,d6,d7⟩⟩:=b;rw[Bool.eq_iff_iff];simp[WY,JY,ZO,Ze,Qd.sv,XU];simp only[and_assoc]
 ok a:=by simp[JF,JY,ZO,Ze,Qd.sv,XU]
 pl a:=rfl
def KT:KeyK (List UInt8) where
 ks:=(false,[.str])
 enc:= .str
 is a b:=by rw[Bool.eq_iff_iff];simp[WY,JY,ZO,Ze]
 ok a:=by simp[JF,JY,ZO,Ze]
 pl a:=rfl
def KI:KeyK Int where
 ks:=(false,[.int .i64])
 enc:= .int .i64
 is a b:=by rw[Bool.eq_iff_iff];simp[WY,JY,ZO,Ze,XU]
 ok a:=by simp[JF,JY,ZO,Ze,XU]
 pl a:=rfl
abbrev LB:=List UInt8
end Go.Our
namespace Go.Our
open Go Go.Sx
structure Sd where
 q:Qd
 a:Int
 b:Int
 c:Int
 d:Int
def Zgq(s:Sd):List SV:=[.int .i64 s.q.s.k, .str s.q.s.t, .str s.q.s.y, .str s.q.s.l, .int .i64 s.q.p.k, .str s.q.p.t, .str s.q.p.y, .str s.q.p.l, .int .i64 s.q.o.k, .str s.q.o.t, .str s.q.o.y, .str s.q.o.l, .int .i64 s.q.g.k, .str s.q.g.t, .str s.q.g.y, .str s.q.g.l,
 .int .i64 s.a, .int .i64 s.b, .int .i64 s.c, .int .i64 s.d]
theorem Zgr(l:List Sd):Zh (l.map Zgq)=true:=Zz _ (fun _=>rfl) l
instance :PlF Zgq:=⟨fun _=>rfl⟩
def ZhJ(l:List Sd):List DC:=[.kid 20 (l.map Zgq)]
def inD(ins:List (List Sd)):List (List DC):=ins.map ZhJ
theorem ZcJ:∀ins:List (List Sd),Zt (inD ins)=true
 | []=>rfl
 |l::ins=>by simp only[inD,List.map_cons,ZhJ,Zt,Ys,JL,Zgr,Bool.and_self,Bool.true_and];exact ZcJ ins
instance {ins:List (List Sd)}:PlD (inD ins):=⟨ZcJ ins⟩
def numM(f:LB->Int)(t:Tm):Int:=if t.k=2 then f t.t else-1
def VW(q:Qd):List Tm:=[q.s,q.p,q.o,q.g]
def ownT(f:LB->Int)(acc:List Int)(t:Tm):List Int:=if t.k=2 then(if f t.t∈acc then acc else acc++ [f t.t])else acc
end Go.Our
namespace Go.Our
open Go.Sx
abbrev KS:Bool×List CK:=(false,[CK.str])
theorem Z7a(a b:List UInt8):WY KS (.str a) (.str b)=(a==b):=by simp[WY,JY,ZO,Ze]
theorem ZcK(a:List UInt8):JF KS (.str a)=true:=by simp[JF,JY,ZO,Ze]
def StrRows(rs:List (List SV)):Prop:=∀r∈rs,∃(k:List UInt8) (v:SV),r=[.str k,v]
theorem StrRows.ok{rs:List (List SV)}(h:StrRows rs):JN KS rs:=fun r hr=>let⟨k,v,e⟩:=h r hr;⟨_,v,e,ZcK k⟩
def valM(rs:List (List SV))(a:List UInt8):Option SV:=(Xz KS (.str a) 0 rs).map Prod.snd
theorem Z4T(key:SV):∀(rs:List (List SV)) (i j:Nat),(Xz KS key i rs).map Prod.snd=(Xz KS key j rs).map Prod.snd
 | [],i,j=>rfl
 |r::rs,i,j=>by
  unfold Xz;split
  ·split
   ·rfl
   ·exact Z4T key rs (i+1) (j+1)
  ·rfl
theorem Jz(k a:List UInt8)(v:SV)(rs:List (List SV)):valM ([.str k,v]::rs) a=if a=k then some v else valM rs a:=by
 unfold valM;conv=>lhs;unfold Xz
 simp only[Z7a];by_cases e:a=k
 ·subst e;simp
 ·have:(a==k)=false:=by simpa using e
  rw[this,if_neg e];exact Z4T _ rs 1 0
theorem Z8F{rs:List (List SV)}(h:StrRows rs)(k a:List UInt8)(v:SV)(hk:valM rs k=none):valM (rs++ [[.str k,v]]) a=if a=k then some v else valM rs a:=by
 induction rs with
 |nil=>rw[List.nil_append,Jz]
 |cons r rs ih=>
  obtain⟨k',v',rfl⟩:=h r (List.mem_cons_self ..);rw[Jz]at hk;have hne:k≠k':=fun e=>by rw[if_pos e]at hk;cases hk
  rw[if_neg hne]at hk;rw[List.cons_append,Jz,Jz,ih (fun r hr=>h r (List.mem_cons_of_mem _ hr)) hk];by_cases e:a=k'
  ·subst e;rw[if_pos rfl,if_pos rfl,if_neg (fun e=>hne e.symm)]
  ·rw[if_neg e,if_neg e]
theorem Z3v{k:List UInt8}{v:SV}:∀{rs:List (List SV)} (h:StrRows rs) {i j:Nat} {u:SV} (hf:Xz KS (.str k) i rs=some (i+j,u)) (a:List UInt8),StrRows (rs.modify j (putV v))/\valM (rs.modify j (putV v)) a=if a=k then some v else valM rs a
 | [],h,i,j,u,hf,a=>by simp[Xz]at hf
 |r::rs,h,i,j,u,hf,a=>by
  obtain⟨k',v',rfl⟩:=h r (List.mem_cons_self ..);have ht:StrRows rs:=fun r hr=>h r (List.mem_cons_of_mem _ hr);unfold Xz at hf;simp only[Z7a]at hf;by_cases e:k=k'
  ·subst e;simp at hf;obtain⟨rfl,_⟩:=hf;rw[List.modify_zero_cons];refine⟨fun r hr=>?_,?_⟩
   ·rcases List.mem_cons.1 hr with rfl|hr
    ·exact⟨k,v,rfl⟩
    ·exact ht r hr
   ·show valM ([.str k,v]::rs) a=_
    rw[Jz,Jz];by_cases e:a=k
    ·rw[if_pos e,if_pos e]
    ·rw[if_neg e,if_neg e,if_neg e]
  ·have hb:(k==k')=false:=by simpa using e
   rw[hb]at hf;simp only at hf;cases j with
   |zero=>
    have hge:∀(rs:List (List SV)) (m n:Nat) (x:SV),Xz KS (.str k) m rs=some (n,x)->m<=n:=by
     intro rs
     induction rs with
     |nil=>intro m n x hh;simp[Xz]at hh
     |cons r rs ih=>
      intro m n x hh;unfold Xz at hh;split at hh
      ·split at hh
       ·injection hh with hh;injection hh with h1 h2;omega
       ·have:=ih _ _ _ hh;omega
      ·cases hh
    have:=hge _ _ _ _ hf;omega
   |succ j=>
    obtain⟨h1,h2⟩:=Z3v ht (i:=i+1) (j:=j) (u:=u) (by rw[hf,show i+1+j=i+(j+1)by omega]) a;rw[List.modify_succ_cons];refine⟨fun r hr=>?_,?_⟩
    ·rcases List.mem_cons.1 hr with rfl|hr
     ·exact⟨k',v',rfl⟩
     ·exact h1 r hr
    ·rw[Jz,Jz,h2];by_cases e2:a=k'
     ·subst e2;rw[if_pos rfl,if_pos rfl,if_neg (fun e3=>e e3.symm)]
     ·rw[if_neg e2,if_neg e2]
theorem Z5J{rs:List (List SV)}(h:StrRows rs)(k:List UInt8)(v:SV)(a:List UInt8):StrRows (setM KS (.str k) v rs)/\valM (setM KS (.str k) v rs) a=if a=k then some v else valM rs a:=by
 unfold setM;cases hf:Xz KS (.str k) 0 rs with
 |none=>
  simp only;refine⟨fun r hr=>?_,Z8F h k a v (by unfold valM;rw[hf];rfl)⟩;rcases List.mem_append.1 hr with hr|hr
  ·exact h r hr
  ·have:=List.mem_singleton.1 hr;subst this;exact⟨k,v,rfl⟩
 |some x=>
  obtain⟨j,u⟩:=x;simp only;exact Z3v h (i:=0) (j:=j) (u:=u) (by rw[hf,Nat.zero_add]) a
end Go.Our
namespace Go.Our
open Go.Sx Go.Lib
theorem Z8G(u:Nat):(decDigits u).length<=u+1:=by
 induction u using Nat.strongRecOn with
 |_ u ih=>
  rw[decDigits];split
  ·simp
  ·have:=ih (u/10) (by omega);rw[List.length_append,List.length_singleton];omega
def Zez(l:List UInt8):Nat:=l.foldl (fun a c=>a*10+(c.toNat-48)) 0
theorem Z7b(u:Nat):Zez (decDigits u)=u:=by
 induction u using Nat.strongRecOn with
 |_ u ih=>
  rw[decDigits];split
  ·rename_i h;simp only[Zez,List.foldl_cons,List.foldl_nil,Nat.zero_mul,Nat.zero_add,UInt8.toNat_ofNat'];omega
  ·rename_i h;have:=ih (u/10) (by omega);unfold Zez at this⊢;rw[List.foldl_append,this];simp only[List.foldl_cons,List.foldl_nil,UInt8.toNat_ofNat'];omega
def Ziv(s:List UInt8):List SV:=[.str s]
instance :PlF Ziv:=⟨fun _=>rfl⟩
theorem ZcL{rs:List (List SV)}(h:Zh rs=true)(k:List UInt8)(i:Int):Zh (setM KS (.str k) (.int .i64 i) rs)=true:=by
 have iff:∀rs:List (List SV),Zh rs=true<->∀r∈rs,YK r=true:=by
  intro rs
  induction rs with
  |nil=>simp[Zh]
  |cons r rs ih=>simp[Zh,ih]
 rw[iff]at h⊢;unfold setM;split
 ·intro r hr;obtain⟨j,hj,rfl⟩:=List.mem_iff_getElem.1 hr;rw[List.getElem_modify];have h0:=h (rs[j]'(by simpa using hj)) (List.getElem_mem _);split
  ·generalize rs[j]'(by simpa using hj)=r0 at h0;unfold putV;split
   ·simp only[YK,plain,Bool.and_true]at h0⊢;simpa using(by simpa using h0:plain _=true/\plain _=true).1
   ·exact h0
  ·exact h0
 ·intro r hr;rcases List.mem_append.1 hr with hr|hr
  ·exact h r hr
  ·have:=List.mem_singleton.1 hr;subst this;rfl
structure Cnt(l:List (List UInt8))(rs:List (List SV)):Prop where
 str:StrRows rs
 plain:Zh rs=true
 out:∀a,a∉l->valM rs a=none
 mem:∀a,a∈l->∃k:Nat,0<k/\k<=l.length/\valM rs a=some (.int .i64 (k:Int))
theorem Cnt.nil:Cnt [] []:=⟨fun _ h=>(List.not_mem_nil h).elim,rfl,fun _ _=>rfl,fun _ h=>(List.not_mem_nil h).elim⟩
theorem Cnt.step{l:List (List UInt8)}{rs:List (List SV)}(h:Cnt l rs)(s:List UInt8){k:Nat}(h0:0<k)(h1:k<=l.length+1):Cnt (l++ [s]) (setM KS (.str s) (.int .i64 (k:Int)) rs):=by
 refine⟨(Z5J h.str s _ []).1,ZcL h.plain s _,fun a ha=>?_,fun a ha=>?_⟩
 ·rw[List.mem_append,List.mem_singleton,not_or]at ha;rw[(Z5J h.str s _ a).2,if_neg ha.2];exact h.out a ha.1
 ·rw[(Z5J h.str s _ a).2];by_cases e:a=s
  ·rw[if_pos e];exact⟨k,h0,by simpa using h1,rfl⟩
  ·rw[if_neg e];have:a∈l:=by simpa[e]using ha
   obtain⟨k',g0,g1,g2⟩:=h.mem a this;exact⟨k',g0,by simp;omega,g2⟩
end Go.Our
namespace Go.Our
section
variable {α:Type}[DecidableEq α]{c:α->α->Int}
theorem V9(h:Tri c){l:List α}(hl:Rise c l):l.Nodup:=List.Pairwise.imp (fun h1=>h.ne h1) hl
theorem Z4U(h:Tri c):∀{l m:List α},l.Pairwise (fun a b=>c a b<=0)->m.Pairwise (fun a b=>c a b<=0)->l.Perm m->l=m
 | [],m,_,_,hp=>(List.nil_perm.1 hp).symm
 |x::l,[],_,_,hp=>by have:=hp.length_eq;simp at this
 |x::l,y::m,hl,hm,hp=>by
  have hl':=List.pairwise_cons.1 hl;have hm':=List.pairwise_cons.1 hm
  have h1:c x y<=0:=by
   rcases List.mem_cons.1 (hp.mem_iff.2 (List.mem_cons_self ..):y∈x::l)with e|e
   ·rw[e,h.self];omega
   ·exact hl'.1 _ e
  have h2:c y x<=0:=by
   rcases List.mem_cons.1 (hp.mem_iff.1 (List.mem_cons_self ..):x∈y::m)with e|e
   ·rw[e,h.self];omega
   ·exact hm'.1 _ e
  have e:x=y:=(h.zero x y).1 (by have:=h.anti x y;omega);subst e;rw[Z4U h hl'.2 hm'.2 (List.perm_cons _|>.1 hp)]
theorem XP(h:Tri c)(l:List α):(l.mergeSort (leC c)).Pairwise (fun a b=>c a b<=0):=by
 have:=List.pairwise_mergeSort (le:=leC c) (fun a b d h1 h2=>by rw[UT h]at*;exact h.trans a b d h1 h2) (fun a b=>by
  have:=h.anti a b
  rw[Bool.or_eq_true,UT h,UT h];omega) l
 exact this.imp fun h1=>(UT h).1 h1
end
end Go.Our
namespace Go.Our
open Go.Sx Go.Lib
theorem Z3w(u:Nat):∀c∈decDigits u,48<=c.toNat/\c.toNat<=57:=by
 induction u using Nat.strongRecOn with
 |_ u ih=>
  rw[decDigits];intro c hc;split at hc
  ·rw[List.mem_singleton.1 hc,UInt8.toNat_ofNat'];omega
  ·rcases List.mem_append.1 hc with hc|hc
   ·exact ih (u/10) (by omega) c hc
   ·rw[List.mem_singleton.1 hc,UInt8.toNat_ofNat'];omega
theorem ZcM{n:Int}{c:UInt8}(h:c∈itoa n):c=45\/48<=c.toNat/\c.toNat<=57:=by
 unfold itoa at h;split at h
 ·rcases List.mem_cons.1 h with h|h
  ·exact .inl h
  ·exact .inr (Z3w _ _ h)
 ·exact .inr (Z3w _ _ h)
theorem ZcN{u v:Nat}(h:decDigits u=decDigits v):u=v:=by
 have:=congrArg Zez h;rwa [Z7b,Z7b]at this
theorem ZfH{u:Nat}{l:LB}(h:decDigits u=45::l):False:=by
 have:=Z3w u 45 (by rw[h];exact List.mem_cons_self ..);revert this;decide
theorem ZeA{a b:Int}(h:itoa a=itoa b):a=b:=by
 unfold itoa at h;split at h<;>split at h
 ·have:=ZcN (List.cons.inj h).2;omega
 ·exact(ZfH h.symm).elim
 ·exact(ZfH h).elim
 ·have:=ZcN h;omega
theorem ZfI{d:UInt8}:∀{a b r s:LB},d∉a->d∉b->a++d::r=b++d::s->a=b/\r=s
 | [],[],_,_,_,_,h=>⟨rfl,(List.cons.inj h).2⟩
 | [],y::b,_,_,_,hb,h=>(hb (by rw[(List.cons.inj h).1];exact List.mem_cons_self ..)).elim
 |x::a,[],_,_,ha,_,h=>(ha (by rw[<-(List.cons.inj h).1];exact List.mem_cons_self ..)).elim
 |x::a,y::b,r,s,ha,hb,h=>by
  obtain⟨h1,h2⟩:=List.cons.inj h;obtain⟨h3,h4⟩:=ZfI (fun hm=>ha (List.mem_cons_of_mem _ hm)) (fun hm=>hb (List.mem_cons_of_mem _ hm)) h2;exact⟨by rw[h1,h3],h4⟩
theorem Z2l{a b:Int}{d:UInt8}{r s:LB}(hd:d≠45)(hr:d.toNat<48\/57<d.toNat)(h:itoa a++d::r=itoa b++d::s):a=b/\r=s:=by
 have hn:∀n:Int,d∉itoa n:=fun n hm=>by
  rcases ZcM hm with e|e
  ·exact hd e
  ·omega
 obtain⟨h1,h2⟩:=ZfI (hn a) (hn b) h;exact⟨ZeA h1,h2⟩
structure Seen where
 self:Bool
 cls:Int
 tm:Tm
 deriving DecidableEq
def Z7c(s:Seen):Prop:=0<=s.cls/\(s.self=true->s.cls=0/\s.tm=ZE)/\(0<s.cls->s.tm=ZE)
def Z5K(s:LB):LB:=61::(itoa (s.length:Int)++58::s)
def ZeB(t:Tm):LB:=Z5K t.t++(Z5K t.y++(Z5K t.l++itoa t.k))
def Z7d(s:Seen):LB:=(if s.self=true then [64]else if 0<s.cls then 35::itoa (s.cls-1)else ZeB s.tm)++ [32]
theorem Z5L{a b r s:LB}(h:Z5K a++r=Z5K b++s):a=b/\r=s:=by
 unfold Z5K at h;simp only[List.cons_append,List.append_assoc]at h;obtain⟨h1,h2⟩:=Z2l (by decide) (by decide) (List.cons.inj h).2;exact List.append_inj h2 (by omega)
theorem Z2m{a b:Seen}{r s:LB}(ha:Z7c a)(hb:Z7c b)(h:Z7d a++r=Z7d b++s):a=b/\r=s:=by
 obtain⟨sa,ca,ta⟩:=a;obtain⟨sb,cb,tb⟩:=b;obtain⟨a1,a2,a3⟩:=ha;obtain⟨b1,b2,b3⟩:=hb;simp only at a1 a2 a3 b1 b2 b3;unfold Z7d at h;simp only[List.append_assoc]at h;have e61:∀t:Tm,∀w,ZeB t++w=61::(itoa (t.t.length:Int)++58::(t.t++(Z5K t.y++(Z5K t.l++(itoa t.k++w))))):=fun t w=>by unfold ZeB;rw[Z5K];simp
 cases sa
 ·cases sb
  ·simp only[Bool.false_eq_true,if_false]at h;by_cases ea:0<ca
   ·by_cases eb:0<cb
    ·rw[if_pos ea,if_pos eb]at h;obtain⟨h1,h2⟩:=Z2l (d:=32) (by decide) (by decide) (List.cons.inj h).2;have hc:ca=cb:=by omega
     subst hc;rw[a3 ea,b3 ea];exact⟨rfl,h2⟩
    ·rw[if_pos ea,if_neg eb,e61]at h;exact absurd (List.cons.inj h).1 (by decide)
   ·by_cases eb:0<cb
    ·rw[if_neg ea,if_pos eb,e61]at h;exact absurd (List.cons.inj h).1 (by decide)
    ·rw[if_neg ea,if_neg eb]at h;unfold ZeB at h;simp only[List.append_assoc]at h;obtain⟨h1,h⟩:=Z5L h;obtain⟨h2,h⟩:=Z5L h;obtain⟨h3,h⟩:=Z5L h;obtain⟨h4,h5⟩:=Z2l (d:=32) (by decide) (by decide) h;have hc:ca=cb:=by omega
     obtain⟨k,t,y,l⟩:=ta;obtain⟨k',t',y',l'⟩:=tb;simp only at h1 h2 h3 h4;subst hc h1 h2 h3 h4;exact⟨rfl,h5⟩
  ·simp only[Bool.false_eq_true,if_false,if_true]at h;by_cases ea:0<ca
   ·rw[if_pos ea]at h;exact absurd (List.cons.inj h).1 (by decide)
   ·rw[if_neg ea,e61]at h;exact absurd (List.cons.inj h).1 (by decide)
 ·cases sb
  ·simp only[Bool.false_eq_true,if_false,if_true]at h;by_cases eb:0<cb
   ·rw[if_pos eb]at h;exact absurd (List.cons.inj h).1 (by decide)
   ·rw[if_neg eb,e61]at h;exact absurd (List.cons.inj h).1 (by decide)
  ·simp only[if_true]at h;obtain⟨c1,t1⟩:=a2 rfl;obtain⟨c2,t2⟩:=b2 rfl;subst c1 t1 c2 t2;exact⟨rfl,by simpa using h⟩
structure Sg where
 a:Seen
 b:Seen
 c:Seen
 d:Seen
 deriving DecidableEq
def Z7e(s:Sg):Prop:=Z7c s.a/\Z7c s.b/\Z7c s.c/\Z7c s.d
def VX(s:Sg):LB:=Z7d s.a++(Z7d s.b++(Z7d s.c++Z7d s.d))
theorem Z7f{a b:Sg}{r s:LB}(ha:Z7e a)(hb:Z7e b)(h:VX a++r=VX b++s):a=b/\r=s:=by
 unfold VX at h;simp only[List.append_assoc]at h;obtain⟨h1,h⟩:=Z2m ha.1 hb.1 h;obtain⟨h2,h⟩:=Z2m ha.2.1 hb.2.1 h;obtain⟨h3,h⟩:=Z2m ha.2.2.1 hb.2.2.1 h;obtain⟨h4,h5⟩:=Z2m ha.2.2.2 hb.2.2.2 h;obtain⟨p,q,u,v⟩:=a;obtain⟨p',q',u',v'⟩:=b;simp only at h1 h2 h3 h4;subst h1 h2 h3 h4;exact⟨rfl,h5⟩
theorem ZcO{a b:Sg}(ha:Z7e a)(hb:Z7e b)(h:VX a=VX b):a=b:=(Z7f (r:=[]) (s:=[]) ha hb (by rw[h])).1
theorem ZeC(s:Sg):VX s≠ []:=by
 unfold VX Z7d;simp
def ZaW:List LB->LB
 | []=>[]
 |a::l=>10::(a++ZaW l)
def ZcP:List LB->LB
 | []=>[]
 |a::l=>a++ZaW l
def IsSg(t:LB):Prop:=∃s,Z7e s/\t=VX s
theorem IsSg.ne{t:LB}(h:IsSg t):t≠ []:=by obtain⟨s,_,rfl⟩:=h;exact ZeC s
theorem IsSg.cut{a b r s:LB}(ha:IsSg a)(hb:IsSg b)(h:a++r=b++s):a=b/\r=s:=by
 obtain⟨x,hx,rfl⟩:=ha;obtain⟨y,hy,rfl⟩:=hb;obtain⟨h1,h2⟩:=Z7f hx hy h;exact⟨by rw[h1],h2⟩
theorem Z9U:∀{l m:List LB},(∀t∈l,IsSg t)->(∀t∈m,IsSg t)->ZaW l=ZaW m->l=m
 | [],[],_,_,_=>rfl
 | [],b::m,_,_,h=>by simp[ZaW]at h
 |a::l,[],_,_,h=>by simp[ZaW]at h
 |a::l,b::m,ha,hb,h=>by
  obtain⟨h1,h2⟩:=(ha a (List.mem_cons_self ..)).cut (hb b (List.mem_cons_self ..)) (List.cons.inj h).2;rw[h1,Z9U (fun t ht=>ha t (List.mem_cons_of_mem _ ht)) (fun t ht=>hb t (List.mem_cons_of_mem _ ht)) h2]
theorem ZeD:∀{l m:List LB},(∀t∈l,IsSg t)->(∀t∈m,IsSg t)->ZcP l=ZcP m->l=m
 | [],[],_,_,_=>rfl
 | [],b::m,_,hb,h=>by have:=(hb b (List.mem_cons_self ..)).ne;simp[ZcP]at h;exact(this h.1).elim
 |a::l,[],ha,_,h=>by have:=(ha a (List.mem_cons_self ..)).ne;simp[ZcP]at h;exact(this h.1).elim
 |a::l,b::m,ha,hb,h=>by
  obtain⟨h1,h2⟩:=(ha a (List.mem_cons_self ..)).cut (hb b (List.mem_cons_self ..)) h;rw[h1,Z9U (fun t ht=>ha t (List.mem_cons_of_mem _ ht)) (fun t ht=>hb t (List.mem_cons_of_mem _ ht)) h2]
theorem Z5M{α β:Type}{f:α->β}{p:α->Prop}(hf:∀a b,p a->p b->f a=f b->a=b):∀{l m:List α},(∀x∈l,p x)->(∀x∈m,p x)->(l.map f).Perm (m.map f)->l.Perm m
 | [],m,_,_,h=>by
   have:m=[]:=by have:=h.length_eq;simpa using this.symm
   rw[this]
 |a::l,m,hl,hm,h=>by
  have ha:f a∈m.map f:=h.mem_iff.1 (List.mem_cons_self ..);obtain⟨b,hb,e⟩:=List.mem_map.1 ha;have hab:=hf b a (hm b hb) (hl a (List.mem_cons_self ..)) e;subst hab;obtain⟨m1,m2,rfl⟩:=List.append_of_mem hb;have h2:(b::(m1++m2)).Perm (m1++b::m2):=List.perm_middle.symm;have h3:=h.trans (h2.map f).symm;simp only[List.map_cons]at h3;have h4:=List.Perm.cons_inv h3;exact((Z5M hf (fun x hx=>hl x (List.mem_cons_of_mem _ hx)) (fun x hx=>hm x (h2.mem_iff.1 (List.mem_cons_of_mem _ hx))) h4).cons b).trans h2
def seeM(cl:List Int)(x:Nat)(n:Int)(t:Tm):Seen:=if n<0 then⟨false,0,t⟩else if n=(x:Int)then⟨true,0,ZE⟩else⟨false,1+cl.getD n.toNat 0,ZE⟩
def sgM(cl:List Int)(x:Nat)(s:Sd):Sg:=⟨seeM cl x s.a s.q.s,seeM cl x s.b s.q.p,seeM cl x s.c s.q.o,seeM cl x s.d s.q.g⟩
theorem Z2n{cl:List Int}(hc:∀c∈cl,0<=c)(x:Nat)(n:Int)(t:Tm):Z7c (seeM cl x n t):=by
 unfold seeM Z7c;split
 ·exact⟨Int.le_refl _,fun h=>(by cases h),fun h=>(by simp at h)⟩
 ·split
  ·exact⟨Int.le_refl _,fun _=>⟨rfl,rfl⟩,fun h=>(by simp at h)⟩
  ·have:0<=cl.getD n.toNat 0:=by
    rw[List.getD_eq_getElem?_getD];cases h:cl[n.toNat]? with
    |none=>simp
    |some c=>exact hc c (List.mem_of_getElem? h)
   exact⟨(by show 0<=1+_;omega),fun h=>(by cases h),fun _=>rfl⟩
theorem ZcQ{cl:List Int}(hc:∀c∈cl,0<=c)(x:Nat)(s:Sd):Z7e (sgM cl x s):=⟨Z2n hc _ _ _,Z2n hc _ _ _,Z2n hc _ _ _,Z2n hc _ _ _⟩
def Jl(cl:List Int)(I:List (List Sd))(x:Nat):List Sg:=(I.getD x []).map (sgM cl x)
def Z9V(cl:List Int)(I:List (List Sd))(x:Nat):List LB:=((Jl cl I x).map VX).mergeSort (leC cmpL)
def keyM(cl:List Int)(I:List (List Sd))(x:Nat):LB:=itoa (cl.getD x 0)++10::ZcP (Z9V cl I x)
theorem Z9W{cl:List Int}(hc:∀c∈cl,0<=c)(I:List (List Sd))(x:Nat):∀t∈Z9V cl I x,IsSg t:=by
 intro t ht;have ht:t∈(Jl cl I x).map VX:=(List.mergeSort_perm _ _).mem_iff.1 ht;obtain⟨s,hs,rfl⟩:=List.mem_map.1 ht;unfold Jl at hs;obtain⟨d,_,rfl⟩:=List.mem_map.1 hs;exact⟨_,ZcQ hc x d,rfl⟩
theorem Z3x{cl:List Int}(hc:∀c∈cl,0<=c)(I:List (List Sd))(x:Nat):∀s∈Jl cl I x,Z7e s:=by
 intro s hs;unfold Jl at hs;obtain⟨d,_,rfl⟩:=List.mem_map.1 hs;exact ZcQ hc x d
theorem ZcR{cl:List Int}(hc:∀c∈cl,0<=c)(I:List (List Sd))(x y:Nat):keyM cl I x=keyM cl I y<->cl.getD x 0=cl.getD y 0/\(Jl cl I x).Perm (Jl cl I y):=by
 constructor
 ·intro h;obtain⟨h1,h2⟩:=Z2l (d:=10) (by decide) (by decide) h;refine⟨h1,?_⟩;have h3:=ZeD (Z9W hc I x) (Z9W hc I y) h2;unfold Z9V at h3;have h4:((Jl cl I x).map VX).Perm ((Jl cl I y).map VX):=((List.mergeSort_perm _ _).symm.trans (by rw[h3])).trans (List.mergeSort_perm _ _);exact Z5M (p:=Z7e) (fun a b ha hb=>ZcO ha hb) (Z3x hc I x) (Z3x hc I y) h4
 ·rintro⟨h1,h2⟩;unfold keyM Z9V;rw[h1,Z4U triL (XP triL _) (XP triL _) (((List.mergeSort_perm _ _).trans (h2.map VX)).trans (List.mergeSort_perm _ _).symm)]
section
variable {α:Type}[BEq α][LawfulBEq α]
def ZH(l:List α):List α:=l.foldl (fun acc k=>if k∈acc then acc else acc++ [k]) []
theorem Va(l:List α){i:Nat}(h:i<l.length):ZH (l.take (i+1))=if l[i]∈ZH (l.take i)then ZH (l.take i)else ZH (l.take i)++ [l[i]]:=by
 unfold ZH;rw[List.take_succ_eq_append_getElem h,List.foldl_append];rfl
theorem Z4V(l:List α):∀(i j:Nat),i<=j->∃m,ZH (l.take j)=ZH (l.take i)++m
 |i,j,h=>by
  induction j with
  |zero=>have:i=0:=by omega
         subst this;exact⟨[],by simp⟩
  |succ j ih=>
   by_cases e:i=j+1
   ·subst e;exact⟨[],by simp⟩
   ·obtain⟨m,hm⟩:=ih (by omega);by_cases hl:j<l.length
    ·rw[Va l hl];split
     ·exact⟨m,hm⟩
     ·exact⟨m++ [l[j]],by rw[hm,List.append_assoc]⟩
    ·rw[List.take_of_length_le (by omega)];rw[List.take_of_length_le (by omega)]at hm;exact⟨m,hm⟩
theorem Z17(l:List α)(i:Nat):(ZH (l.take i)).length<=i:=by
 induction i with
 |zero=>simp[ZH]
 |succ i ih=>
  by_cases hl:i<l.length
  ·rw[Va l hl];split
   ·omega
   ·simp;omega
  ·rw[List.take_of_length_le (by omega)]at ih⊢;omega
theorem Z4W(l:List α){i:Nat}(h:i<l.length):l[i]∈ZH (l.take (i+1)):=by
 rw[Va l h];split
 ·assumption
 ·simp
theorem Z7g(l:List α)(i:Nat):(ZH (l.take i)).Nodup:=by
 induction i with
 |zero=>simp[ZH]
 |succ i ih=>
  by_cases hl:i<l.length
  ·rw[Va l hl];split
   ·exact ih
   ·rename_i hn;exact List.nodup_append.2 ⟨ih,by simp,fun a ha b hb=>by rw[List.mem_singleton.1 hb];exact fun e=>hn (e▸ha)⟩
  ·rw[List.take_of_length_le (by omega)]at ih⊢;exact ih
def Wz(l:List α):List Int:=l.map fun k=>((ZH l).idxOf k:Int)
theorem Jq(l:List α):(Wz l).length=l.length:=by simp[Wz]
theorem Zgs{a m:List α}{k:α}(h:k∈a):(a++m).idxOf k=a.idxOf k:=by rw[List.idxOf_append,if_pos h]
theorem ZeE(l:List α){i:Nat}(h:i<l.length):(Wz l)[i]?=some (((ZH (l.take (i+1))).idxOf l[i]:Nat):Int):=by
 unfold Wz;rw[List.getElem?_map,List.getElem?_eq_getElem h];obtain⟨m,hm⟩:=Z4V l (i+1) l.length (by omega);rw[List.take_length]at hm;simp only[Option.map_some];rw[hm,Zgs (Z4W l h)]
theorem Z4X(l:List α):∀c∈Wz l,0<=c/\c< ((ZH l).length:Int):=by
 intro c hc;obtain⟨i,hi,rfl⟩:=List.mem_iff_getElem.1 hc;rw[Jq]at hi;have h1:=ZeE l hi;rw[List.getElem?_eq_getElem (by rw[Jq];exact hi)]at h1;have h2:=List.idxOf_lt_length_of_mem (Z4W l hi);obtain⟨m,hm⟩:=Z4V l (i+1) l.length (by omega);rw[List.take_length]at hm;rw[hm,List.length_append];injection h1 with h1;rw[h1];omega
end
structure Pre{α:Type}(c:α->α->Int):Prop where
 anti:∀a b,c a b<0<->0<c b a
 trans:∀a b d,c a b<=0->c b d<=0->c a d<=0
section
variable {α:Type}{c:α->α->Int}
theorem Pre.refl(h:Pre c)(a:α):c a a=0:=by have:=h.anti a a;omega
theorem Pre.flip(h:Pre c){a b:α}(e:c a b=0):c b a=0:=by have:=h.anti a b;have:=h.anti b a;omega
theorem Pre.lt_le(h:Pre c){a b d:α}(h1:c a b<0)(h2:c b d<=0):c a d<0:=by
 have h3:=h.trans a b d (by omega) h2;rcases Int.lt_or_eq_of_le h3 with h4|h4
 ·exact h4
 ·have h5:=h.flip h4;have h6:=h.trans b d a h2 (by omega);have:=h.anti a b;omega
theorem Pre.le_lt(h:Pre c){a b d:α}(h1:c a b<=0)(h2:c b d<0):c a d<0:=by
 have h3:=h.trans a b d h1 (by omega);rcases Int.lt_or_eq_of_le h3 with h4|h4
 ·exact h4
 ·have h5:=h.flip h4;have h6:=h.trans d a b (by omega) h1;have:=h.anti b d;omega
def rankL(c:α->α->Int)(l:List α)(x:α):Nat:=l.countP fun y=>decide (c y x<0)
theorem ZcS{l m:List α}(h:l.Perm m)(x:α):rankL c l x=rankL c m x:=h.countP_eq _
theorem count_pre{p:α->Bool}:∀{o:List α} {r:Nat},r<=o.length->(∀j (h:j<o.length),p o[j]=true<->j<r)->o.countP p=r
 | [],r,hr,_=>by simp at hr;simp[hr]
 |a::o,0,_,h=>by
  rw[List.countP_eq_zero];intro x hx;obtain⟨j,hj,rfl⟩:=List.mem_iff_getElem.1 hx;have:=h j hj;simp only[Nat.not_lt_zero,iff_false]at this;exact this
 |a::o,r+1,hr,h=>by
  have h0:=(h 0 (by simp)).2 (by omega);simp only[List.getElem_cons_zero]at h0;rw[List.countP_cons_of_pos h0];congr 1
  exact count_pre (by simpa using hr) fun j hj=>by
   have:=h (j+1) (by simpa using hj);simpa using this
def Z3y[Inhabited α](c:α->α->Int)(o:List α):Nat->Nat
 |0=>0
 |i+1=>if c (o.getD i default) (o.getD (i+1) default)=0 then Z3y c o i else i+1
theorem Z7h[Inhabited α](o:List α):∀i,Z3y c o i<=i
 |0=>Nat.le_refl _
 |i+1=>by unfold Z3y;split
          ·exact Nat.le_succ_of_le (Z7h o i)
          ·exact Nat.le_refl _
theorem Z7i[Inhabited α](h:Pre c){o:List α}(hs:o.Pairwise fun a b=>c a b<=0):∀i (hi:i<o.length) j (hj:j<o.length),c o[j] o[i]<0<->j<Z3y c o i
 |0,hi,j,hj=>by
  have:¬c o[j] o[0]<0:=fun h1=>by
   have h2:c o[0] o[j]<=0:=by
    rcases Nat.eq_zero_or_pos j with e|e
    ·subst e;have:=h.refl o[0];omega
    ·exact(List.pairwise_iff_getElem.1 hs) 0 j hi hj e
   have:=h.anti o[j] o[0];omega
  simp[Z3y,this]
 |i+1,hi,j,hj=>by
  have hi':i<o.length:=by omega
  have ih:=Z7i h hs i hi' j hj;have hd:o.getD i default=o[i]:=by rw[List.getD_eq_getElem?_getD,List.getElem?_eq_getElem hi'];rfl
  have hd':o.getD (i+1) default=o[i+1]:=by rw[List.getD_eq_getElem?_getD,List.getElem?_eq_getElem hi];rfl
  unfold Z3y;rw[hd,hd'];by_cases e:c o[i] o[i+1]=0
  ·rw[if_pos e,<-ih];constructor
   ·intro h1;have:=h.flip e;exact h.lt_le h1 (by omega)
   ·intro h1;exact h.lt_le h1 (by omega)
  ·rw[if_neg e];have hle:c o[i] o[i+1]<=0:=(List.pairwise_iff_getElem.1 hs) i (i+1) hi' hi (by omega);constructor
   ·intro h1;refine Decidable.byContradiction fun hn=>?_
    have h2:c o[i+1] o[j]<=0:=by
     rcases Nat.eq_or_lt_of_le (Nat.le_of_not_lt hn)with e2|e2
     ·subst e2;have:=h.refl o[i+1];omega
     ·exact(List.pairwise_iff_getElem.1 hs) (i+1) j hi hj e2
    have:=h.anti o[j] o[i+1];omega
   ·intro h1
    have h2:c o[j] o[i]<=0:=by
     rcases Nat.eq_or_lt_of_le (Nat.le_of_lt_succ h1)with e2|e2
     ·subst e2;have:=h.refl o[j];omega
     ·exact(List.pairwise_iff_getElem.1 hs) j i hj hi' e2
    exact h.le_lt h2 (by omega)
theorem Z18[Inhabited α](h:Pre c){o:List α}(hs:o.Pairwise fun a b=>c a b<=0){i:Nat}(hi:i<o.length):rankL c o o[i]=Z3y c o i:=
 count_pre (Nat.le_trans (Z7h o i) (by omega)) fun j hj=>by simpa using Z7i h hs i hi j hj
end
def Yg:List Qd->List Qd->Int
 | [],[]=>0
 | [],_::_=> -1
 |_::_,[]=>1
 |a::l,b::m=>if Xd a b=0 then Yg l m else Xd a b
theorem triLists:Tri Yg where
 rng:=by
  intro a
  induction a with
  |nil=>intro b;cases b<;>simp[Yg]
  |cons x a ih=>
   intro b;cases b with
   |nil=>simp[Yg]
   |cons y b=>
    unfold Yg;split
    ·exact ih b
    ·exact triQ.rng x y
 anti:=by
  intro a
  induction a with
  |nil=>intro b;cases b<;>simp[Yg]
  |cons x a ih=>
   intro b;cases b with
   |nil=>simp[Yg]
   |cons y b=>
    unfold Yg;have:=triQ.anti x y;by_cases e:Xd x y=0
    ·rw[if_pos e,if_pos (by omega),ih b]
    ·rw[if_neg e,if_neg (by omega),this]
 zero:=by
  intro a
  induction a with
  |nil=>intro b;cases b<;>simp[Yg]
  |cons x a ih=>
   intro b;cases b with
   |nil=>simp[Yg]
   |cons y b=>
    unfold Yg;by_cases e:Xd x y=0
    ·rw[if_pos e,ih b,List.cons.injEq];have:=(triQ.zero x y).1 e;simp[this]
    ·rw[if_neg e,List.cons.injEq];constructor
     ·exact fun h=>(e h).elim
     ·exact fun h=>(e ((triQ.zero x y).2 h.1)).elim
 trans:=by
  intro a
  induction a with
  |nil=>intro b d _ h2;cases b<;>cases d<;>simp_all[Yg]
  |cons x a ih=>
   intro b d h1 h2;cases b with
   |nil=>simp[Yg]at h1
   |cons y b=>
    cases d with
    |nil=>simp[Yg]at h2
    |cons z d=>
     unfold Yg at h1 h2⊢;by_cases e1:Xd x y=0
     ·rw[if_pos e1]at h1;have:=(triQ.zero x y).1 e1;subst this;by_cases e2:Xd x z=0
      ·rw[if_pos e2]at h2⊢;exact ih b d h1 h2
      ·rw[if_neg e2]at h2⊢;exact h2
     ·rw[if_neg e1]at h1;by_cases e2:Xd y z=0
      ·have:=(triQ.zero y z).1 e2;subst this;rw[if_neg e1];exact h1
      ·rw[if_neg e2]at h2;have h3:Xd x z<0:=triQ.lt_trans (by omega) h2;rw[if_neg (by omega)];omega
def dig4(n:Nat):LB:=List.replicate (4-(decDigits n).length) 48++decDigits n
def Xh(A:List LB)(cl:List Int)(x:Nat)(t:Tm):Tm:=if t.k=2 then{t with t:=if A.idxOf t.t=x then [120]else dig4 (cl.getD (A.idxOf t.t) 0).toNat}else t
def Z5N(A:List LB)(cl:List Int)(x:Nat)(q:Qd):Qd:=⟨Xh A cl x q.s,Xh A cl x q.p,Xh A cl x q.o,Xh A cl x q.g⟩
def atV(A:List LB)(l:List Qd)(x:Nat):List Nat:=(List.range l.length).filter fun k=>decide (A.getD x []∈Zv (l.getD k ⟨ZE,ZE,ZE,ZE⟩))
def Z1Q(A:List LB)(l:List Qd)(cl:List Int)(x:Nat):List Qd:=(atV A l x).map fun k=>Z5N A cl x (l.getD k ⟨ZE,ZE,ZE,ZE⟩)
def Yc(A:List LB)(l:List Qd)(cl:List Int)(x:Nat):List Qd:=(Z1Q A l cl x).mergeSort (leC Xd)
def UE(A:List LB)(l:List Qd)(cl:List Int)(a b:Nat):Int:=if cmpI (cl.getD a 0) (cl.getD b 0)=0 then Yg (Yc A l cl a) (Yc A l cl b)else cmpI (cl.getD a 0) (cl.getD b 0)
theorem ZcT(A:List LB)(l:List Qd)(cl:List Int)(a b:Nat):UE A l cl b a= -UE A l cl a b:=by
 unfold UE;have h:=triI.anti (cl.getD a 0) (cl.getD b 0);by_cases e:cmpI (cl.getD a 0) (cl.getD b 0)=0
 ·rw[if_pos e,if_pos (by omega),triLists.anti (Yc A l cl a)]
 ·rw[if_neg e,if_neg (by omega),h]
theorem Vt(A:List LB)(l:List Qd)(cl:List Int):Pre (UE A l cl) where
 anti a b:=by have:=ZcT A l cl a b;omega
 trans a b d h1 h2:=by
  unfold UE at*;by_cases e1:cmpI (cl.getD a 0) (cl.getD b 0)=0
  ·rw[if_pos e1]at h1;have ee:=(triI.zero _ _).1 e1;by_cases e2:cmpI (cl.getD b 0) (cl.getD d 0)=0
   ·rw[if_pos e2]at h2;rw[ee,if_pos e2];exact triLists.trans _ _ _ h1 h2
   ·rw[if_neg e2]at h2;rw[ee,if_neg e2];exact h2
  ·rw[if_neg e1]at h1;by_cases e2:cmpI (cl.getD b 0) (cl.getD d 0)=0
   ·have ee:=(triI.zero _ _).1 e2;rw[<-ee,if_neg e1];exact h1
   ·rw[if_neg e2]at h2;have h3:=triI.lt_trans (x:=cl.getD a 0) (y:=cl.getD b 0) (z:=cl.getD d 0) (by omega) h2;rw[if_neg (by omega)];omega
def Yu(A:List LB)(l:List Qd)(cl:List Int):List Int:=(List.range cl.length).map fun x=>(rankL (UE A l cl) (List.range cl.length) x:Int)
theorem YY(A:List LB)(l:List Qd)(cl:List Int):(Yu A l cl).length=cl.length:=by simp[Yu]
theorem Zgt{α:Type}{c:α->α->Int}(h:Pre c){l:List α}{x:α}(hx:x∈l):rankL c l x<l.length:=by
 unfold rankL;refine Nat.lt_of_le_of_ne List.countP_le_length fun e=>?_;have:=(List.countP_eq_length.1 e) x hx;have h2:=h.refl x;simp at this;omega
theorem Z9X(A:List LB)(l:List Qd)(cl:List Int):∀c∈Yu A l cl,0<=c/\c< (cl.length:Int):=by
 intro c hc;unfold Yu at hc;obtain⟨x,hx,rfl⟩:=List.mem_map.1 hc;have:=Zgt (Vt A l cl) hx;rw[List.length_range]at this;omega
def clsN(cl:List Int):Nat:=(ZH cl).length
inductive Refs(A:List LB)(l:List Qd):List Int->List Int->Prop
 |stop {cl:List Int} (h:clsN (Yu A l cl)=clsN cl):Refs A l cl (Yu A l cl)
 |go {cl F:List Int} (h:clsN (Yu A l cl)≠clsN cl) (k:Refs A l (Yu A l cl) F):Refs A l cl F
theorem Refs.det{A:List LB}{l:List Qd}{cl F F':List Int}(h:Refs A l cl F)(h':Refs A l cl F'):F'=F:=by
 induction h with
 |stop hn=>cases h' with
  |stop _=>rfl
  |go hy _=>exact(hy hn).elim
 |go hy _ ih=>cases h' with
  |stop hn=>exact(hy hn).elim
  |go _ k=>exact ih k
theorem Refs.ok{A:List LB}{l:List Qd}{cl F:List Int}(h:Refs A l cl F):F.length=cl.length/\∀c∈F,0<=c/\c< (cl.length:Int):=by
 induction h with
 |stop hn=>exact⟨YY _ _ _,Z9X _ _ _⟩
 |go hy _ ih=>rw[YY]at ih;exact ih
def digZ(n:Nat):LB:=if n=0 then []else decDigits n
def padN(least n:Nat)(s:LB):LB:=List.replicate (least-(digZ n).length-s.length) 48++(digZ n++s)
theorem ZcU{n:Nat}(h:0<n):digZ n=digZ (n/10)++ [UInt8.ofNat (48+n%10)]:=by
 unfold digZ;rw[if_neg (by omega)];conv=>lhs;rw[decDigits]
 by_cases h9:n<10
 ·rw[if_pos (show n/10=0 by omega),dif_pos h9,Nat.mod_eq_of_lt h9];rfl
 ·rw[if_neg (show ¬n/10=0 by omega),dif_neg h9]
theorem ZeF{least n:Nat}{s:LB}(h:0<n\/s.length<least):padN least (n/10) (UInt8.ofNat (48+n%10)::s)=padN least n s:=by
 unfold padN;by_cases hn:0<n
 ·rw[ZcU hn];rw[List.length_append,List.length_cons,List.length_singleton,List.append_assoc,List.singleton_append];congr 2;omega
 ·have hn0:n=0:=by omega
  subst hn0;have h1:s.length<least:=by omega
  simp only[digZ,Nat.zero_div,if_true,List.length_nil,List.nil_append,List.length_cons,Nat.sub_zero,Nat.zero_mod,Nat.add_zero];rw[show least-s.length=(least-(s.length+1))+1 by omega,List.replicate_succ'];simp
theorem Zgu{least:Nat}{s:LB}(h:least<=s.length):padN least 0 s=s:=by
 unfold padN;rw[show least-(digZ 0).length-s.length=0 by simp[digZ];omega];rfl
theorem ZeG(n:Nat):padN 4 n []=dig4 n:=by
 unfold padN dig4 digZ;by_cases h:n=0
 ·subst h;rw[if_pos rfl,decDigits,dif_pos (by omega)];rfl
 ·rw[if_neg h];simp
end Go.Our
namespace Go.Sx
open Go Go.Sort Go.Shelf Go.Proofs
theorem HeapOK.later{M:Mx}{η:Env}{w w':World}{O:Hps}{nx:Nat}(H:HeapOK M η w O nx)(hf:FrW w w' fun _=>False):HeapOK M η w' O nx:=by
 have hk:∀{i h},lkp i O=some h->∀k,feet η w (.loc i) h k->w'.heap[k]?=w.heap[k]?:=fun hi k f=>hf.block k ((H.own.1 _ _ hi).1.feet_lt f) (fun h=>h);have hb:∀{i h},lkp i O=some h->∀k,feet η w' (.loc i) h k->feet η w (.loc i) h k:=fun hi k f=>H.stands List.prefix_rfl hi (hk hi) f;exact⟨H.pre,H.len,⟨fun i h hi=>⟨(H.own.1 i h hi).1.keep (hk hi),fun k f=>(H.own.1 i h hi).2 k (hb hi k f)⟩,fun i j h h' k hi hj hij f f'=>H.own.2 i j h h' k hi hj hij (hb hi k f) (hb hj k f')⟩,H.fr.trans hf (fun n h=>h.elim),H.sok⟩
theorem FrW.grown{w w':World}(h:FrW w w' fun _=>False):∃q os,w'=grow (w.drewN q) os:=by
 refine⟨w'.drawn-w.drawn,w'.heap.extract w.heap.size,?_⟩;have hd:=h.drawn
 have e1:w'.heap=w.heap++w'.heap.extract w.heap.size:=by
  apply Array.ext_getElem?;intro k;rcases Nat.lt_or_ge k w.heap.size with hk|hk
  ·rw[Array.getElem?_append_left hk];exact h.block k hk (fun x=>x)
  ·rw[Array.getElem?_append_right hk,Array.getElem?_extract];simp only[Nat.min_self];split
   ·rw[show w.heap.size+(k-w.heap.size)=k by omega]
   ·rename_i hn;exact Array.getElem?_eq_none (by omega)
 obtain⟨heap,tape,drawn,os,output⟩:=w;obtain⟨heap',tape',drawn',os',output'⟩:=w';have h1:=h.os;have h2:=h.tape;have h3:=h.output;simp only at h1 h2 h3 hd e1;subst h1 h2 h3;simp only[grow,World.drewN];rw[<-e1];congr 1;omega
section
variable {α:Type}[Inhabited α](enc:α->List Value)(k:Nat)
theorem Vc(w:World)(blk off m:Nat)(dk:Array α)(os:Array Obj):(sortWorldK enc k w blk off m dk os).heap=(mapBlock w blk (putCells id off (flatK enc k dk))).heap++os:=by
 simp[sortWorldK,grow,putRowK,putRow,mapBlock,Sort.ahead]
theorem UX(w:World)(blk off m:Nat)(dk:Array α)(os:Array Obj):w.heap.size<=(sortWorldK enc k w blk off m dk os).heap.size:=by
 rw[Vc];simp[mapBlock]
theorem UA(w:World)(blk off m:Nat)(dk:Array α)(os:Array Obj){g:Nat}(hg:g<w.heap.size)(hne:g≠blk):(sortWorldK enc k w blk off m dk os).heap[g]?=w.heap[g]?:=by
 rw[Vc,Array.getElem?_append_left (by simpa[mapBlock]using hg)];simp only[mapBlock,Array.getElem?_modify];rw[if_neg (fun h=>hne h.symm)]
theorem Z4h(w:World)(blk off m:Nat)(dk:Array α)(os:Array Obj){c:Array Value}{T:TypeId}{fz:Nat×Nat}(h:w.heap[blk]?=some (.cells c T fz)):(sortWorldK enc k w blk off m dk os).heap[blk]?=some (.cells (putCells id off (flatK enc k dk) c) T fz):=by
 have hlt:=(Array.getElem?_eq_some_iff.1 h).1;rw[Vc,Array.getElem?_append_left (by simpa[mapBlock]using hlt)];simp only[mapBlock,Array.getElem?_modify,if_true,h,Option.map_eq_map,Option.map_some,onCells]
end
theorem Z5O{w:World}{g i:Nat}{c:Array Value}{T:TypeId}{fz:Nat×Nat}(h:w.heap[g]?=some (.cells c T fz)):w.cell? ⟨g,i,none⟩=c[i]?:=by simp[World.cell?,h]
theorem Zb1{P:Program}{T:Tab}{α:Type}[Inhabited α]{enc:α->List Value}{k:Nat}{row:α->List SV}{g:FuncId}{cf:α->α->Int}{blk off size:Nat}{w:World}(hlone:T.globs.all (fun p=>Z8m p.2)=true)(hblk:∀h,lkp blk T.globs≠some h)
 (hc:∀x y,Does P T g 0 [.agg (row x), .agg (row y)] [] [] (Val (.int .i64 (cf x y)))) (eg:∀args w,(callFunc g args).run P w= .ok (.enter g args) w)
 (hrow:∀η x,DenL η (row x) (enc x)/\∀u∈enc x,u.oneCell'=true) (hg:∀g h,lkp g T.globs=some h->HpSat [] w false (.glob g) h/\g<w.heap.size):CmpLays P g #[] enc k cf blk off size w:=by
 intro m os dk hdk x y
 have hg':∀g h,lkp g T.globs=some h->HpSat [] (sortWorldK enc k w blk off m dk os) false (.glob g) h/\g< (sortWorldK enc k w blk off m dk os).heap.size:=by
  intro g' h hh;obtain⟨h1,h2⟩:=hg g' h hh;have hne:g'≠blk:=fun e=>hblk h (e▸hh);refine⟨h1.keep fun n f=>?_,Nat.lt_of_lt_of_le h2 (UX enc k w blk off m dk os)⟩;have hlt:=h1.feet_lt f;obtain⟨e,he,hf⟩:=f;cases he
  rcases hf with rfl|hf
  ·exact UA enc k w blk off m dk os hlt hne
  ·exact(Z0h (List.all_eq_true.1 hlone _ (UO hh)) hf).elim
 have:=Does.calls (hc x y) eg (vs:=[.agg (enc x).toArray, .agg (enc y).toArray]) (w:=sortWorldK enc k w blk off m dk os) (by
  simp only[DenL,Den]
  exact⟨_,_,rfl,⟨_,rfl,(hrow [] x).1,(hrow [] x).2⟩,_,_,rfl,⟨_,rfl,(hrow [] y).1,(hrow [] y).2⟩,rfl⟩) hg'
 refine this.mono ?_;rintro e w' ⟨v,rfl,hv,hf⟩;simp only[Den]at hv;subst hv;exact⟨rfl,hf.grown⟩
theorem Z4Y{α:Type}[Inhabited α]{enc:α->List Value}{k:Nat}(hk:∀x,(enc x).length=k){l:List α}{i j:Nat}{x:α}(hi:l[i]?=some x)(hj:j<k):(flatK enc k l.toArray)[i*k+j]! =(enc x)[j]!/\i*k+j<l.length*k:=by
 have hil:=(List.getElem?_eq_some_iff.1 hi).1
 have hlt:i*k+j<l.length*k:=by
  have:(i+1)*k<=l.length*k:=Nat.mul_le_mul_right k hil;rw[Nat.succ_mul]at this;omega
 refine⟨?_,hlt⟩;rw[get_flatK _ _ _ _ (by simpa using hlt)];have h1:(i*k+j)/k=i:=by rw[Nat.mul_comm,Nat.mul_add_div (by omega),Nat.div_eq_of_lt hj,Nat.add_zero]
 have h2:(i*k+j)%k=j:=by rw[Nat.mul_comm,Nat.mul_add_mod];exact Nat.mod_eq_of_lt hj
 rw[h1,h2];congr 1;have:=(List.getElem?_eq_some_iff.1 hi).2;simp[hil,this]
theorem Z5P{P:Program}{T:Tab}{ρ:Ren}{α:Type}[Inhabited α](hT:TabOK P T)(L:SlLaysF0.n6 P ρ)(L':SlLaysF0.n6 P ρ){enc:α->List Value}{k:Nat}{row:α->List SV}{g:FuncId}{cf:α->α->Int}
 (aE:∀w,(isAgg (ρ.t 24)).run P w= .ok true w) (zE:∀w,(Go.sizeOf (ρ.t 24)).run P w= .ok k w) (hk:∀x,(enc x).length=k/\(row x).length=k) (hk0:0<k) (hO:SWO (ltOf cf)) (hTo:∀x y,(ltOf cf) x y=false->(ltOf cf) y x=false->x=y)
 (hlone:T.globs.all (fun p=>Z8m p.2)=true) (hc:∀x y,Does P T g 0 [.agg (row x), .agg (row y)] [] [] (Val (.int .i64 (cf x y)))) (eg:∀args w,(callFunc g args).run P w= .ok (.enter g args) w) (ef:∀args w,(callFunc (ρ.f 6) args).run P w= .ok (.enter (ρ.f 6) args) w)
 (hrow:∀η x,DenL η (row x) (enc x)/\∀u∈enc x,u.oneCell'=true) (hrow':∀η x vs,DenL η (row x) vs->vs=enc x) (l:List α) (hl:l.length<4611686018427387904):
 Does P T (ρ.f 6) 1 [.sl (.loc 0) 0 k l.length none, .fn (.func g) [] []] [(0, .rows k (l.map row))] [] (fun r O nx=>r= .tup []/\O=[(0, .rows k ((l.mergeSort fun x y=>!(ltOf cf) y x).map row))]/\nx=1):=by
 refine⟨fun M vs hP hT' hF hS H hd=> .inl ⟨ρ.f 6,by rw[hP];exact ef _ _,?_⟩⟩;obtain⟨P',⟨T',N',S',ro'⟩,w0,F,η0,px'⟩:=M;simp only at hP hT' hF hS H hd⊢;subst hP hT';simp only[DenL]at hd;obtain⟨v,us,rfl,hv,f,us',rfl,hf,rfl⟩:=hd;simp only[Den]at hf;obtain⟨ff,fc,rfl,hff,hfc⟩:=hf;simp only[DenL]at hff hfc;subst hff hfc;have hsat:=(H.own.1 0 _ rfl).1
 have hgl:∀g h,lkp g T'.globs=some h->HpSat [] w0 false (.glob g) h/\g<w0.heap.size:=by
  intro g' h hh;have hp:JW h=true:=List.all_eq_true.1 T'.gplain _ (UO hh);have h1:=H.shared (b:= .glob g') hh;refine⟨h1.plain hp,h1.feet_lt ⟨⟨g',0,0⟩,rfl, .inl rfl⟩⟩
 simp only[HpSat,Env.get]at hsat;simp only[Den,Env.get]at hv
 have fin:∀w' (O':Hps),FrW w0 w' F->HpSat η0 w' true (.loc 0) (.rows k ((l.mergeSort fun x y=>!(ltOf cf) y x).map row))->
  ∃r O' nx' η',(r=SV.tup []/\O'=[(0,Hp.rows k ((l.mergeSort fun x y=>!(ltOf cf) y x).map row))]/\nx'=1)/\η0<+:η'/\HeapOK ⟨P',⟨T',N',S',ro'⟩,w0,F,η0,px'⟩ η' w' O' nx'/\Den η' r (.tuple #[]):=by
  intro w' O' hfr hs;refine⟨_,_,_,η0,⟨rfl,rfl,rfl⟩,List.prefix_rfl,⟨H.pre,H.len,⟨fun i h hi=>?_,fun i j h h' k hi hj hij f f'=>?_⟩,hfr,H.sok⟩,?_⟩
  ·rw[Z6]at hi;split at hi
   ·rename_i e;subst e;injection hi with hi;subst hi;refine⟨hs,fun n f=>(H.own.1 0 _ rfl).2 n ?_⟩;obtain⟨e,h1,h2⟩:=f;exact⟨e,h1,h2⟩
   ·simp[lkp]at hi
  ·rw[Z6]at hi hj;split at hi
   ·rename_i e;subst e;split at hj
    ·rename_i e2;exact(hij e2.symm).elim
    ·simp[lkp]at hj
   ·simp[lkp]at hi
  ·simp only[Den,DenL];exact⟨[],rfl,rfl⟩
 rcases hsat with⟨hn,hnil⟩|⟨e,arr,Tt,fz,he,hheap,hown,hcells⟩
 ·
  have hl0:l=[]:=by simpa using hnil
  subst hl0
  have hv2:v= .slice none 0 0:=by
   rcases hv with⟨_,h,_⟩|⟨e,o,h,_⟩
   ·exact h
   ·rw[hn]at h;cases h
  subst hv2;refine(AnyF.slices_SortFunc_none L' none 0 _ w0).mono ?_;rintro e w' ⟨rfl,rfl⟩;refine⟨_,rfl,fin _ [] (FrW.refl _ _) ?_⟩;simp only[HpSat,Env.get];exact .inl ⟨hn,by simp⟩
 ·obtain⟨hun,hsz,hle,hb0⟩:=hown trivial
  obtain⟨hel,hvv⟩:l.length<=e.cap/\v= .slice (some ⟨e.g,0,none⟩) l.length e.cap:=by
   rcases hv with⟨h,_⟩|⟨e',o,h,h2,h3,h4,h5⟩
   ·rw[he]at h;cases h
   ·rw[he]at h;cases h;simp only[Option.getD_none,Nat.zero_add,Nat.sub_zero]at h2 h3;have:=h5 (.inr trivial);rw[hb0]at this;simp only[Nat.zero_mul,Nat.add_zero]at this;subst this;exact⟨h3,h2⟩
  subst hvv;have hblk:e.g<w0.heap.size:=(Array.getElem?_eq_some_iff.1 hheap).1
  have hcell:∀(i:Nat) (x:α) (j:Nat),l[i]?=some x->j<k->arr[i*k+j]?=some (enc x)[j]!:=by
   intro i x j hi hj;obtain⟨h1,h2⟩:=hcells i (row x) (by rw[List.getElem?_map,hi];rfl);have hlen:=(hk x).2;have hen:=(hk x).1
   have hall:∀(j:Nat) (c:SV),(row x)[j]?=some c->∃u,((List.range k).map fun j=>arr.getD (i*k+j) undef)[j]?=some u/\Den η0 c u:=by
    intro j c hj;have hjk:j<k:=by have:=(List.getElem?_eq_some_iff.1 hj).1;omega
    obtain⟨u,h3,h4,h5⟩:=h2 j c hj;rw[hb0,Nat.zero_add]at h3;refine⟨u,?_,h5⟩;rw[List.getElem?_map,List.getElem?_range hjk];simp only[Option.map_some,Array.getD_eq_getD_getElem?,h3,Option.getD_some]
   have hvs:=hrow' η0 x _ (Z01 (by simp[hlen]) hall);have hjr:j< (row x).length:=by omega
   obtain⟨u,h3,h4,h5⟩:=h2 j ((row x)[j]) (List.getElem?_eq_getElem hjr);rw[hb0,Nat.zero_add]at h3
   have h6:(enc x)[j]! =u:=by
    rw[<-hvs]
    have:((List.range k).map fun j=>arr.getD (i*k+j) undef)[j]?=some u:=by
     rw[List.getElem?_map,List.getElem?_range hj];simp only[Option.map_some,Array.getD_eq_getD_getElem?,h3,Option.getD_some]
    rw[List.getElem!_eq_getElem?_getD,this];rfl
   rw[h3,h6]
  have split:∀t,t<l.length*k->∃x,l[t/k]?=some x/\t%k<k/\t/k*k+t%k=t:=by
   intro t ht;have h1:t/k<l.length:=Nat.div_lt_of_lt_mul (by rw[Nat.mul_comm];exact ht);exact⟨l[t/k],List.getElem?_eq_getElem h1,Nat.mod_lt _ hk0,by rw[Nat.mul_comm];exact Nat.div_add_mod t k⟩
  have hsize:l.length*k<=arr.size:=by rw[hsz];exact Nat.mul_le_mul_right _ hel
  have hH:HoldsK enc k w0 e.g 0 l.toArray:=by
   intro t ht;rw[size_flatK,List.size_toArray]at ht;obtain⟨x,h1,h2,h3⟩:=split t ht;have h4:=hcell _ x _ h1 h2;have h5:=(Z4Y (enc:=enc) (fun x=>(hk x).1) h1 h2).1;rw[h3]at h4 h5;refine⟨by rw[Nat.zero_add,Z5O hheap,h4,h5];rfl,?_⟩;have:=hun t (by omega);simp only[World.frozen?,hheap,Nat.zero_add];simpa using this
  have hFg:F e.g:=by
   rcases(H.own.1 0 _ rfl).2 e.g ⟨e,he, .inl rfl⟩with h|h
   ·exact h
   ·have h:w0.heap.size<=e.g:=h;omega
  have hcl:CmpLays P' g #[] enc k cf e.g 0 l.toArray.size w0:=Zb1 hlone (fun h hh=>(H.sok (.glob e.g) h hh).2 e.g ⟨⟨e.g,0,0⟩,rfl, .inl rfl⟩|>.2 hFg) hc eg (fun η x=>hrow η x) hgl;have hmain:=AnyQ.slices_SortFunc_total L k aE zE enc (fun x=>(hk x).1) (fun x u hu=>(hrow [] x).2 u hu) cf hO g #[] e.g 0 e.cap l.toArray w0 eg hcl hH hblk (by simpa using hl) hTo;rw[List.size_toArray]at hmain;refine hmain.mono ?_;rintro e1 w' ⟨rfl,n,os,rfl⟩;refine⟨_,rfl,fin _ [] ?_ ?_⟩
  ·refine⟨rfl,rfl,rfl,?_,UX ..,fun b hb hnF=>UA enc k w0 e.g 0 n _ os hb (fun e=>hnF (e▸hFg))⟩;simp[sortWorldK,grow,putRowK,putRow,mapBlock,Sort.ahead]
  ·simp only[HpSat,Env.get];have hsl:(l.mergeSort fun x y=>!(ltOf cf) y x).length=l.length:=List.length_mergeSort l;refine .inr ⟨e,_,Tt,fz,he,Z4h enc k w0 e.g 0 n _ os hheap,fun _=>⟨?_,?_,?_,hb0⟩,fun i rw1 hi=>?_⟩
   ·simp only[putCells,Array.size_mapIdx];exact hun
   ·simp only[putCells,Array.size_mapIdx];exact hsz
   ·rw[List.length_map,hsl];exact hel
   ·rw[List.getElem?_map]at hi;obtain⟨x,hx,rfl⟩:=Option.map_eq_some_iff.1 hi;refine⟨(hk x).2,fun j sv hj=>?_⟩;have hjk:j<k:=by have:=(List.getElem?_eq_some_iff.1 hj).1;have:=(hk x).2;omega
    obtain⟨h5,h6⟩:=Z4Y (enc:=enc) (fun x=>(hk x).1) hx hjk;rw[hsl]at h6;obtain⟨u,h7,h8⟩:=XC (hrow η0 x).1 hj;refine⟨u,?_,(hrow η0 x).2 u (List.mem_of_getElem? h7),h8⟩;have hlt:i*k+j<arr.size:=by omega
    rw[hb0,Nat.zero_add];simp only[putCells,Array.getElem?_mapIdx,Array.getElem?_eq_getElem hlt,Option.map_some,Nat.zero_le,true_and,Nat.zero_add,size_flatK,List.size_toArray,hsl,h6,if_true,Nat.sub_zero];rw[h5,List.getElem!_eq_getElem?_getD,h7]
    rfl
end Go.Sx
namespace Go.Sx
open Go
def Mx.at(M:Mx)(N:Nat)(ro:Option (Nat×Nat))(η:Env):Mx:=⟨M.P,⟨M.C.T,N,M.C.S,ro⟩,M.w0,M.F,η,none⟩
def endI(M:Mx)(res:List ResultVar)(K:SV->Hps->Nat->Prop):Post
 | .normal,fr,O,nx=>Z4c fr O fun O=>Z22 M.C fr O res fun vs=>K (Z4b vs) O nx
 | .ret,fr,O,nx=>Z4c fr O fun O=>Z22 M.C fr O res fun vs=>K (Z4b vs) O nx
 | .exit _,_,_,_=>STOP "exit"
def ZcZ:List Nat->List SV->Fr->(Fr->Prop)->Prop
 | [],ags,fr,K=>match ags with
   | []=>match Z8r (lkp DS fr)with
     |true=>STOP "round"
     |false=>K fr
   |_::_=>STOP "round"
 |p::ps,ags,fr,K=>match ags with
  |a::ags=>ZcZ ps ags ((p,a)::fr) K
  | []=>STOP "round"
def Zd0(j:Nat)(K:SV->Hps->Nat->Prop):Post:=fun e fr O nx=>match lkp j O with
 |some h=>match h with
  | .lp st li fr0=>match st with
    | .busy=>match e with
      | .normal=>Z4a j (.lp .ready li fr0) O fun O=>K (.bool true) O nx
      | .ret=>Z4a j (.lp (.left none) li fr0) O fun O=>K (.bool false) O nx
      | .exit id=>Z4a j (.lp (.left (some id)) li fr0) O fun O=>K (.bool false) O nx
    |_=>STOP "record"
  |_=>STOP "record"
 |none=>STOP "record"
def ZfJ(M:Mx)(j:Nat)(body:Code)(K:SV->Hps->Nat->Prop):Post:=fun e fr O nx=>match e with
 | .normal=>match lkp j O with
   |some h=>match h with
    | .lp st li fr0=>match st with
      | .ready=>Z4a j (.lp .busy li fr0) O fun O=>run M body fr O nx (Zd0 j K)
      |_=>STOP "record"
    |_=>STOP "record"
   |none=>STOP "record"
 |_=>STOP "assignment"
def noDS:Fr->(Fr->Prop)->Prop
 | [],K=>K []
 |(t,v)::r,K=>match Nat.beq t DS with
  |true=>noDS r K
  |false=>noDS r fun r=>K ((t,v)::r)
def ZeH(fr:Fr)(d:Nat)(K:Fr->Prop):Prop:=match lkp DS fr with
 |some v=>match v with
  | .dfs l=>K ((DS, .dfs (.ptr (.loc d) 0 0 0::l))::fr)
  |_=>K ((DS, .dfs [.ptr (.loc d) 0 0 0])::fr)
 |none=>K ((DS, .dfs [.ptr (.loc d) 0 0 0])::fr)
def Zd1(j:Nat)(frK:(Fr->Prop)->Prop)(Q:Post):SV->Hps->Nat->Prop:=fun _ O nx=>match lkp j O with
 |some h=>match h with
  | .lp st _ _=>match st with
    | .ready=>Z2B j O fun O=>frK fun fr=>Q .normal fr O nx
    | .busy=>STOP "record"
    | .left jump=>match jump with
      |none=>Z2B j O fun O=>frK fun fr=>Q .ret fr O nx
      |some id=>Z2B j O fun O=>frK fun fr=>Q (.exit id) fr O nx
  |_=>STOP "record"
 |none=>STOP "record"
section
variable {M:Mx}{η:Env}{w:World}{O:Hps}{nx:Nat}
theorem SOK.longer(h:SOK M){η:Env}(hp:M.η0<+:η){N:Nat}{ro:Option (Nat×Nat)}:SOK (M.at N ro η):=by
 intro b hh hb;have hb':lkS M.C b=some hh:=by cases b<;>exact hb
 obtain⟨h1,h2⟩:=h b hh hb';obtain⟨x,hx,_⟩:=h1.lt;exact⟨h1.mono hp,fun k f=>h2 k (feet.less hp hx f)⟩
theorem HeapOK.at(H:HeapOK M η w O nx){N:Nat}{ro:Option (Nat×Nat)}:HeapOK (M.at N ro η) η w O nx:=⟨List.prefix_rfl,H.len,H.own,H.fr,H.sok.longer H.pre⟩
theorem HeapOK.back{η0:Env}{N:Nat}{ro:Option (Nat×Nat)}(H:HeapOK (M.at N ro η0) η w O nx)(hp:M.η0<+:η0)(hs:SOK M):HeapOK M η w O nx:=⟨hp.trans H.pre,H.len,H.own,H.fr,hs⟩
theorem Z7k(hT:TabOK M.P M.C.T){g:FuncId}{fn:Func}{c:Code}(hf:M.P.funcs[g]?=some fn)(hb:fn.body=some c)(N:Nat)(hN:fn.ntmps=N)(hND:N<=DS){args:List SV}(hlen:args.length<=N){res:List ResultVar}(hres:fn.results=res.toArray)
 {K:SV->Hps->Nat->Prop} {vs:List Value} (H:HeapOK M η w O nx) (hd:DenL η args vs) (h:run (M.at N none η) c (UD 0 args) O nx (endI (M.at N none η) res K))
 {R:Ending->World->Prop} (hR:∀v r w' O' nx' η',η<+:η'->HeapOK M η' w' O' nx'->Den η' r v->K r O' nx'->R (.returned v) w'):Calls M.P g ⟨vs⟩ w R:=by
 have hl:=ZP hd;refine callsIn_wide (n:=0)|>.1 (callsIn_of_wp_marks hf hb trivial ?_)
 have hm:Models (M.at N none η) η (UD 0 args) O nx {tmps:=⟨vs⟩++Array.replicate (fn.ntmps-(Array.mk vs).size) undef,defers:=[]} w:=by
  refine⟨H.at,?_,hND,Z5x (Nat.le_trans hlen hND),(fun l j h=>by cases h),?_⟩
  ·simp only[Array.size_append,Array.size_replicate,hN,List.size_toArray];show vs.length+(N-vs.length)=N
   omega
  ·intro t sv ht;obtain⟨v,_,h1,h2⟩:=Z2g hd ht;have hlt:=(List.getElem?_eq_some_iff.1 h1).1;simp only[Nat.sub_zero]at h1 hlt;rw[Array.getD_eq_getD_getElem?,Array.getElem?_append_left (by simpa using hlt)];have:(Array.mk vs)[t]?=some v:=by simpa using h1
   rw[this];exact h2
 refine Code.wpIn_mono ?_ (Y2 (M:=M.at N none η) hT c h η _ w hm)
 have fin:∀{η1:Env} {fr1:Fr} {O1:Hps} {nx1:Nat} {a:Act} {w1:World},Models (M.at N none η) η1 fr1 O1 nx1 a w1->(Z4c fr1 O1 fun O1=>Z22 (M.at N none η).C fr1 O1 res fun vs=>K (Z4b vs) O1 nx1)->
  LeavesInM Fence.wide 0 M.P fn a.tmps R a.defers .returning w1:=by
  intro η1 fr1 O1 nx1 a w1 hm1 hr;exact Z39 (M:=M.at N none η) hT hres hm1 hr fun w2 O2 v r H2 hd2 hk=>hR v r w2 O2 nx1 η1 H2.pre (H2.back H.pre H.sok) hd2 hk
 intro e a w hq;cases e with
 |normal=>obtain⟨η1,fr1,O1,nx1,hm1,hq⟩:=hq;exact fin hm1 hq
 |ret=>obtain⟨η1,fr1,O1,nx1,hm1,hq⟩:=hq;exact fin hm1 hq
 |exit id=>obtain⟨η1,fr1,O1,nx1,hm1,hq⟩:=hq;exact hq.out.elim
 |goto l=>exact hq.elim
 |panic ch=>obtain⟨_,_,hn,_⟩:=hq;cases hn
 |outgrown=>exact hq.elim
def Vu:List Nat->List Value->Array Value->Array Value
 |p::ps,v::vs,t=>Vu ps vs (t.setIfInBounds p v)
 |_,_,t=>t
theorem Z7l:∀(ps:List Nat) (vs:List Value) (t:Array Value),((ps.toArray.zip ⟨vs⟩).foldl (fun tmps (p:Nat×Value)=>tmps.setIfInBounds p.1 p.2) t)=Vu ps vs t:=by
 intro ps vs t;have h1:(ps.toArray.zip ⟨vs⟩:Array (Nat×Value))=(ps.zip vs).toArray:=by simp
 rw[h1,<-Array.foldl_toList];simp only
 induction ps generalizing vs t with
 |nil=>simp[Vu]
 |cons p ps ih=>
  cases vs with
  |nil=>simp[Vu]
  |cons v vs=>
   simp only[List.zip_cons_cons,List.foldl_cons,Vu];exact ih vs (t.setIfInBounds p v) (by simp)
theorem Z3B:∀(ps:List Nat) (vs:List Value) (t:Array Value),(Vu ps vs t).size=t.size
 | [],vs,t=>by simp[Vu]
 |p::ps,[],t=>by simp[Vu]
 |p::ps,v::vs,t=>by simp only[Vu];rw[Z3B ps vs];simp
theorem Z9Y{η:Env}:∀{ps:List Nat} {ags:List SV} {fr:Fr} {K:Fr->Prop} {vs:List Value} {t:Array Value},ZcZ ps ags fr K->DenL η ags vs->TmpsOK η t fr->(∀p∈ps,p<t.size)->∃fr',K fr'/\Z8r (lkp DS fr')=false/\TmpsOK η (Vu ps vs t) fr'/\vs.length=ps.length
 | [],ags,fr,K,vs,t,h,hd,ht,hp=>by
   simp only[ZcZ]at h;split at h
   ·split at h
    ·exact h.out.elim
    ·rename_i hn;simp only[DenL]at hd;subst hd;exact⟨fr,h,hn,ht,rfl⟩
   ·exact h.out.elim
 |p::ps,ags,fr,K,vs,t,h,hd,ht,hp=>by
  simp only[ZcZ]at h;split at h
  ·rename_i a ags;simp only[DenL]at hd;obtain⟨u,us,rfl,h1,h2⟩:=hd;have hpt:=hp p (List.mem_cons_self ..)
   obtain⟨fr',h3,h4,h5,h6⟩:=Z9Y (t:=t.setIfInBounds p u) h h2 (fun s sv hs=>by
    rw[Z6]at hs;split at hs
    ·rename_i e;subst e;injection hs with hs;subst hs
     simpa[Array.getD_eq_getD_getElem?,Array.getElem?_setIfInBounds,hpt]using h1
    ·rename_i e;rw[Array.getD_eq_getD_getElem?,Array.getElem?_setIfInBounds,if_neg (Ne.symm e),<-Array.getD_eq_getD_getElem?]
     exact ht s sv hs) (fun q hq=>by rw[Array.size_setIfInBounds];exact hp q (List.mem_cons_of_mem _ hq))
   exact⟨fr',h3,h4,h5,by simp[h6]⟩
  ·exact h.out.elim
theorem HeapOK.record(H:HeapOK M η w O nx){j:Nat}{st st':LpS}{li:LpI}{fr0:Fr}(hj:lkp j O=some (.lp st li fr0)){e:Ent}(he:η[j]?=some (some e)):
 ∃r,w.heap[e.g]?=some (.loop r)/\r.state=st.state/\r.pending=st.jump/\∀r':Loop,r'.state=st'.state->r'.pending=st'.jump->r'.params=r.params->r'.assign=r.assign->r'.body=r.body->r'.tmps=r.tmps->HeapOK M η (w.putObj e.g (.loop r')) (setK j (.lp st' li fr0) O) nx:=by
 have hs:=(H.own.1 j _ hj).1;simp only[HpSat]at hs;obtain⟨e',r,h1,h2,h3,h4,h5,h6,h7,h8,h9,h10⟩:=hs;have h1':η[j]?=some (some e'):=h1;rw[he]at h1';injection h1' with h1';injection h1' with h1';subst h1';have hlt:=(Array.getElem?_eq_some_iff.1 h3).1;refine⟨r,h3,h4,h5,fun r' q1 q2 q3 q4 q5 q6=>?_⟩;refine H.upd hj he (fun k hk=>World.putObj_heap_other hk) World.putObj_size rfl rfl rfl ?_;simp only[HpSat];exact⟨e,r',h1,h2,World.putObj_heap_same hlt,q1,q2,by rw[q3];exact h6,by rw[q4];exact h7,by rw[q5];exact h8,by rw[q6];exact h9,by rw[q6];exact h10⟩
theorem YIELD.of(hT:TabOK M.P M.C.T){j:Nat}{li:LpI}{fr0:Fr}{args:List SV}{K:SV->Hps->Nat->Prop}(hj:lkp j O=some (.lp .ready li fr0))(hps:li.ps.all (fun p=>Nat.blt p li.N)=true)(hND:Nat.ble li.N DS=true)
 (h:∀(η1:Env) (l:Nat),η1.length=nx->ZcZ li.ps args fr0 fun fr=>run (M.at li.N (some (l,j)) η1) li.asg fr O nx (ZfJ (M.at li.N (some (l,j)) η1) j li.body K)):YIELD M j args O nx K:=by
 refine⟨fun η w vs e H hd he=>?_⟩;obtain⟨r,hr,hst,hpe,_⟩:=H.record (st':= .ready) hj he;have hs:=(H.own.1 j _ hj).1;simp only[HpSat]at hs;obtain⟨e',r',h1,h2,h3,h4,h5,h6,h7,h8,h9,h10⟩:=hs;have h1':η[j]?=some (some e'):=h1;rw[he]at h1';injection h1' with h1';injection h1' with h1';subst h1';rw[hr]at h3;injection h3 with h3;injection h3 with h3;subst h3;obtain⟨fr,hrun,hnd,htm,hlen⟩:=Z9Y (h η e.g H.len) hd h10 (fun p hp=>by rw[h9];simpa[Nat.blt_eq]using List.all_eq_true.1 hps p hp);have hpr:r.params=li.ps.toArray:=by rw[<-h6]
 refine⟨r.fn,_,r.assign,r.body,run_yield hr (by rw[hpr];simpa using hlen),?_⟩;rw[h7,h8];have hfold:((r.params.zip ⟨vs⟩).foldl (fun tmps (x:Nat×Value)=>tmps.setIfInBounds x.1 x.2) r.tmps)=Vu li.ps vs r.tmps:=by rw[hpr];exact Z7l li.ps vs r.tmps
 have hfold':((r.params.zip ⟨vs⟩).foldl (fun tmps x=>match x with|(t,a)=>tmps.setIfInBounds t a) r.tmps)=Vu li.ps vs r.tmps:=hfold;rw[hfold'];generalize hMr:M.at li.N (some (e.g,j)) η=Mr at hrun;have hTr:TabOK Mr.P Mr.C.T:=by subst hMr;exact hT
 have hpx:Mr.px=none:=by subst hMr;rfl
 have hPr:Mr.P=M.P:=by subst hMr;rfl
 have hfr:Mr.fence=Fence.wide.inRound e.g:=by subst hMr;rfl
 have hm:Models Mr η fr O nx {tmps:=Vu li.ps vs r.tmps,defers:=[]} w:=by
  subst hMr;refine⟨H.at,by rw[Z3B];exact h9,Nat.le_of_ble_eq_true hND,(DfOK.no hnd).2 rfl,fun l' j' hl=>?_,htm⟩;injection hl with hl;injection hl with hl1 hl2;subst hl1 hl2;exact⟨e,he,rfl⟩
 refine roundIn_of_wpIn trivial ?_;rw[<-hPr,<-hfr];refine Code.wpIn_mono ?_ (Y2 hTr li.asg hrun η _ w hm);intro ex a1 w1 hq;cases ex with
 |exit id=>obtain⟨η1,fr1,O1,nx1,hm1,hq⟩:=hq;exact hq.out.elim
 |ret=>obtain⟨η1,fr1,O1,nx1,hm1,hq⟩:=hq;exact hq.out.elim
 |goto l=>exact hq.elim
 |panic ch=>obtain⟨_,_,hn,_⟩:=hq;rw[hpx]at hn;cases hn
 |outgrown=>exact hq.elim
 |normal=>
  obtain⟨η1,fr1,O1,nx1,hm1,hq⟩:=hq;simp only[ZfJ]at hq;split at hq
  case h_2=>exact hq.out.elim
  rename_i hh hj1;split at hq
  case h_2=>exact hq.out.elim
  rename_i st1 li1 fr01;split at hq
  case h_2=>exact hq.out.elim
  rw[Ju]at hq;obtain⟨e1,he1,heg⟩:=hm1.ro e.g j (by subst hMr;rfl);obtain⟨r1,hr1,hs1,hp1,hup1⟩:=hm1.heap.record (st':= .busy) hj1 he1;rw[heg]at hr1 hup1;refine⟨_,run_beginRound hr1 hs1,?_⟩;have hm2:Models Mr η1 fr1 (setK j (.lp .busy li1 fr01) O1) nx1 a1 (w1.putObj e.g (.loop {r1 with state:= .busy})):=⟨hup1 _ rfl hp1 rfl rfl rfl rfl,hm1.size,hm1.nds,hm1.defers,hm1.ro,hm1.frame⟩;refine Code.wpIn_mono ?_ (Y2 hTr li.body hq η1 a1 _ hm2)
  have fin:∀{ex:Ex} {η2:Env} {fr2:Fr} {O2:Hps} {nx2:Nat} {a2:Act} {w2:World} (jump:Option Code),Models Mr η2 fr2 O2 nx2 a2 w2->Zd0 j K ex fr2 O2 nx2->(match ex with| .normal=>jump=none| .ret=>jump=some .ret| .exit id=>jump=some (.exit id))->
   ∃v w',(Instr.endRound e.g jump).run Mr.P w2= .ok v w'/\∃v',Ending.returned v= .returned v'/\∃r O' nx' η',η<+:η'/\HeapOK M η' w' O' nx'/\Den η' r v'/\K r O' nx':=by
   intro ex η2 fr2 O2 nx2 a2 w2 jump hm2 hq hj';unfold Zd0 at hq;split at hq
   case h_2=>exact hq.out.elim
   rename_i hh hj2;split at hq
   case h_2=>exact hq.out.elim
   rename_i st2 li2 fr02;split at hq
   case h_2=>exact hq.out.elim
   obtain⟨e2,he2,heg2⟩:=hm2.ro e.g j (by subst hMr;rfl);have hpre:η<+:η2:=by have:=hm2.heap.pre;subst hMr;exact this
   have back:∀{w':World} {O':Hps},HeapOK Mr η2 w' O' nx2->HeapOK M η2 w' O' nx2:=fun h=>by subst hMr;exact h.back H.pre H.sok
   cases ex with
   |normal=>
    simp only at hj';subst hj';simp only[Ju]at hq;obtain⟨r2,hr2,hs2,hp2,hup2⟩:=hm2.heap.record (st':= .ready) hj2 he2;rw[heg2]at hr2 hup2;exact⟨_,_,run_endRound none hr2,_,rfl, .bool true,_,_,η2,hpre,back (hup2 _ rfl rfl rfl rfl rfl rfl),(by simp only[Den];rfl),hq⟩
   |ret=>
    simp only at hj';subst hj';simp only[Ju]at hq;obtain⟨r2,hr2,hs2,hp2,hup2⟩:=hm2.heap.record (st':= .left none) hj2 he2;rw[heg2]at hr2 hup2;exact⟨_,_,run_endRound (some .ret) hr2,_,rfl, .bool false,_,_,η2,hpre,back (hup2 _ rfl rfl rfl rfl rfl rfl),(by simp only[Den];rfl),hq⟩
   |exit id=>
    simp only at hj';subst hj';simp only[Ju]at hq;obtain⟨r2,hr2,hs2,hp2,hup2⟩:=hm2.heap.record (st':= .left (some id)) hj2 he2;rw[heg2]at hr2 hup2;exact⟨_,_,run_endRound (some (.exit id)) hr2,_,rfl, .bool false,_,_,η2,hpre,back (hup2 _ rfl rfl rfl rfl rfl rfl),(by simp only[Den];rfl),hq⟩
  intro ex a2 w2 hq2;cases ex with
  |normal=>obtain⟨η2,fr2,O2,nx2,hm2,hq2⟩:=hq2;exact fin none hm2 hq2 rfl
  |ret=>obtain⟨η2,fr2,O2,nx2,hm2,hq2⟩:=hq2;exact fin (some .ret) hm2 hq2 rfl
  |exit id=>obtain⟨η2,fr2,O2,nx2,hm2,hq2⟩:=hq2;exact fin (some (.exit id)) hm2 hq2 rfl
  |goto l=>exact hq2.elim
  |panic ch=>obtain⟨_,_,hn,_⟩:=hq2;rw[hpx]at hn;cases hn
  |outgrown=>exact hq2.elim
theorem Z8K{K:Fr->Prop}:∀{fr:Fr},noDS fr K->∃fr0,K fr0/\lkp DS fr0=none/\∀t v,lkp t fr0=some v->lkp t fr=some v
 | [],h=>⟨[],h,rfl,fun t v h=>h⟩
 |(d,u)::r,h=>by
  unfold noDS at h;split at h
  ·rename_i e;have e:=Zn e;obtain⟨fr0,h1,h0,h2⟩:=Z8K h;refine⟨fr0,h1,h0,fun t v ht=>?_⟩;rw[Z6];split
   ·rename_i e2;rw[e2,e,h0]at ht;cases ht
   ·exact h2 t v ht
  ·rename_i e;have e:=Jv e;obtain⟨fr0,h1,h0,h2⟩:=Z8K h;refine⟨(d,u)::fr0,h1,by rw[Z6,if_neg (Ne.symm e)];exact h0,fun t v ht=>?_⟩;rw[Z6]at ht⊢;split
   ·rename_i e;rw[if_pos e]at ht;exact ht
   ·rename_i e;rw[if_neg e]at ht;exact h2 t v ht
theorem Zb2(hT:TabOK M.P M.C.T){gf g:FuncId}{fn:Func}{c:Code}{cap:List SV}(hcall:∀args w,(callFunc gf args).run M.P w= .ok (.enter g args) w)(hf:M.P.funcs[g]?=some fn)(hb:fn.body=some c)(N:Nat)(hN:fn.ntmps=N)(hND:N<=DS)(hlen:cap.length+1<=N)(hres:fn.results= #[])
 {f:Operand} {Q:Post} {a a':Act} {η1:Env} {w1:World} {O1:Hps} {n1 j l:Nat} (hev:∃vs,a.eval f= .func (.func gf) #[] ⟨vs⟩/\DenL η1 cap vs) (H1:HeapOK M η1 w1 O1 n1) (hj:η1[j]?=some (some ⟨l,0,0⟩)) {frK:(Fr->Prop)->Prop}
 (hfrK:∀{K:Fr->Prop},frK K->∃fr',K fr'/\∀η' w' O' nx',η1<+:η'->HeapOK M η' w' O' nx'->Models M η' fr' O' nx' a' w')
 (h:run (M.at N none η1) c (UD 0 (.yf (.loc j)::cap)) O1 n1 (endI (M.at N none η1) [] (Zd1 j frK Q))):
 ∃(d:Deferred) (w1':World) (f':FuncId) (args:Array Value) (w2:World),(resolve a.eval (rangeCall f l) 0).run M.P w1= .ok d w1'/\(∀f',Target.leads M.P w1' d.target d.args=some f'->M.fence.fn f')/\(invoke d.target d.args).run M.P w1'= .ok (.enter f' args) w2/\
  (M.fence.depth.isSome=true->1<=0)/\CallsIn M.fence (0-1) M.P f' args w2 (rangePost M.fence 0 M.P l (ZaB M Q) a'):=by
 obtain⟨vs,hv,hd⟩:=hev;refine⟨{target:= .fn (.func gf) ⟨vs⟩,args:= #[.func (.yield l) #[] #[]]},w1,g, #[.func (.yield l) #[] #[]]++⟨vs⟩,w1,?_,fun f' _=>M.all f',?_,(fun h=>by cases h),?_⟩
 ·simp only[resolve,hv];simp[go_sem]
 ·simp[invoke,go_sem,hcall]
 ·have hargs:(#[.func (.yield l) #[] #[]]++(⟨vs⟩:Array Value))=⟨Value.func (.yield l) #[] #[]::vs⟩:=by apply Array.ext';simp
  rw[hargs]
  have hd1:DenL η1 (.yf (.loc j)::cap) (Value.func (.yield l) #[] #[]::vs):=by
   simp only[DenL,Den];exact⟨_,_,rfl,⟨_,hj,rfl⟩,hd⟩
  refine callsIn_wide.2 (Z7k hT hf hb N hN hND (by simpa using hlen) (by simpa using hres) H1 hd1 h fun v r w' O' nx' η' hp H' hd' hk=>?_);unfold Zd1 at hk;split at hk
  case h_2=>exact hk.out.elim
  rename_i hh hj';split at hk
  case h_2=>exact hk.out.elim
  rename_i st li fr0;have hje:η'[j]?=some (some ⟨l,0,0⟩):=Env.get_mono (b:= .loc j) hp hj;obtain⟨r1,hr1,hs1,hp1,_⟩:=H'.record (st':= .ready) hj' hje;obtain⟨s1,p1,c1,c2,c3,c4,c5,c6⟩:=r1;simp only at hr1 hs1 hp1;subst hs1 hp1;have hdrop:HeapOK M η' (w'.putObj l (.loop {state:= .exhausted,pending:=st.jump,fn:=c1,tmps:=c2,params:=c3,assign:=c4,body:=c5,defers:=c6})) (delK j O') nx':=H'.drop hj' hje (fun k hk=>World.putObj_heap_other (by rintro rfl;exact hk (feet.own (b:= .loc j) hje))) World.putObj_size rfl rfl rfl (Nat.le_refl _);split at hk
  ·rw[XV]at hk;obtain⟨fr',h1,h2⟩:=hfrK hk;exact⟨_,_,run_endLoop hr1 (by simp[LpS.state]),⟨η',fr',_,nx',h2 η' _ _ _ hp hdrop,h1⟩⟩
  ·exact hk.out.elim
  ·split at hk
   ·rw[XV]at hk;obtain⟨fr',h1,h2⟩:=hfrK hk;exact⟨_,_,run_endLoop hr1 (by simp[LpS.state]),wpIn_ret ⟨η',fr',_,nx',h2 η' _ _ _ hp hdrop,h1⟩⟩
   ·rw[XV]at hk;obtain⟨fr',h1,h2⟩:=hfrK hk;exact⟨_,_,run_endLoop hr1 (by simp[LpS.state]),wpIn_exit ⟨η',fr',_,nx',h2 η' _ _ _ hp hdrop,h1⟩⟩
theorem ZeI{fr:Fr}{d:Nat}{K:Fr->Prop}(h:ZeH fr d K):∃l,K ((DS, .dfs (.ptr (.loc d) 0 0 0::l))::fr)/\∀{η:Env} {ds:List Deferred},DfOK η ds (lkp DS fr)->DfL η l ds:=by
 unfold ZeH at h;split at h
 ·rename_i v hv;split at h
  ·rename_i l;exact⟨l,h,fun hd=>by rw[hv]at hd;exact hd⟩
  ·rename_i hn;refine⟨[],h,fun hd=>?_⟩;rw[hv]at hd;have:Z8r (some v)=false:=by cases v<;>first|rfl|exact(hn _ rfl).elim
   rw[DfOK.no this]at hd;subst hd;rfl
 ·rename_i hv;refine⟨[],h,fun hd=>?_⟩;rw[hv]at hd;have hd:_=[]:=hd;subst hd;rfl
theorem RANGEF.of(hT:TabOK M.P M.C.T){f:Operand}{ps:Array Tmp}{asg body:Code}{fr:Fr}{Q:Post}{gf g:FuncId}{cap:List SV}{fn:Func}{c:Code}(hcall:∀args w,(callFunc gf args).run M.P w= .ok (.enter g args) w)(hf:M.P.funcs[g]?=some fn)(hb:fn.body=some c)(N:Nat)(hN:fn.ntmps=N)
 (li:LpI) (hli:li=⟨M.C.N,ps.toList,asg,body⟩) (hv:JX fr f=some (.fn (.func gf) [] cap)) (hlen:Nat.ble (cap.length+1) N=true) (hres:fn.results= #[]) (hro:M.C.ro=none)
 (h:noDS fr fun fr0=> ∀η1:Env,η1.length=nx+2->run (M.at N none η1) c (UD 0 (.yf (.loc (nx+1))::cap)) ((nx+1, .lp .ready li fr0)::(nx, .dfr [])::O) (nx+2) (endI (M.at N none η1) [] (Zd1 (nx+1) (ZeH fr nx) Q))) (hND:Nat.ble N DS=true:=by rfl):RANGEF M f ps asg body fr O nx Q:=by
 obtain⟨fr0,h,_,hfr0⟩:=Z8K h;refine⟨fun η a w hm=>wpIn_rangeFunc fun fnid _=>?_⟩;have hround:M.fence.round=none:=by simp[Mx.fence,hro]
 rw[hround];obtain⟨rec,hrec⟩:∃rec:Loop,rec={state:= .ready,pending:=none,fn:=fnid,tmps:=a.tmps,params:=ps,assign:=asg,body,defers:=w.heap.size}:=⟨_,rfl⟩;have hl:=hm.heap.len;obtain⟨η1,hη1⟩:∃η1:Env,η1=η++ [some ⟨w.heap.size,0,0⟩]:=⟨_,rfl⟩
 have H1:HeapOK M η1 (w.alloc (.deferred (some []))) ((nx, .dfr [])::O) (nx+1):=by
  rw[hη1];refine hm.heap.alloc (w':=w.alloc (.deferred (some []))) (o:= .deferred (some [])) (h:= .dfr []) rfl rfl rfl rfl 0 0 ?_;simp only[HpSat];exact⟨⟨w.heap.size,0,0⟩,by simp[Env.get,<-hl],rfl,World.alloc_heap_new w _,(fun n hn=>nomatch hn),by simp⟩
 have hl1:=H1.len;obtain⟨η2,hη2⟩:∃η2:Env,η2=η1++ [some ⟨w.heap.size+1,0,0⟩]:=⟨_,rfl⟩;have hsz:(w.alloc (.deferred (some []))).heap.size=w.heap.size+1:=World.size_alloc _ _;have hpre:η<+:η2:=by rw[hη2,hη1,List.append_assoc];exact List.prefix_append _ _
 have hj2:η2[nx+1]?=some (some ⟨w.heap.size+1,0,0⟩):=by rw[hη2,<-hl1];simp
 have hd2:η2[nx]?=some (some ⟨w.heap.size,0,0⟩):=by
  rw[hη2,List.getElem?_append_left (by omega),hη1,<-hl];simp
 have H2:HeapOK M η2 ((w.alloc (.deferred (some []))).alloc (.loop rec)) ((nx+1, .lp .ready li fr0)::(nx, .dfr [])::O) (nx+2):=by
  have:=H1.alloc (w':=(w.alloc (.deferred (some []))).alloc (.loop rec)) (o:= .loop rec) (h:= .lp .ready li fr0) rfl rfl rfl rfl 0 0 (by
   rw[hsz,<-hη2];simp only[HpSat];refine⟨_,rec,hj2,rfl,by rw[<-hsz];exact World.alloc_heap_new _ _,?_⟩;subst hrec hli
   exact⟨rfl,rfl,rfl,rfl,rfl,hm.size,fun t sv ht=>(hm.frame t sv (hfr0 t sv ht)).mono hpre⟩)
  rw[hsz,<-hη2]at this;exact this
 have hev:∃vs,a.eval f= .func (.func gf) #[] ⟨vs⟩/\DenL η2 cap vs:=by
  have:=Yx hm.frame hv;simp only[Den,DenL]at this;obtain⟨us,vs,h1,rfl,h3⟩:=this;exact⟨vs,h1,h3.mono hpre⟩
 obtain⟨d,w1',f',args,w2,q1,q2,q3,q4,q5⟩:=Zb2 (a':={a with defers:=[{target:= .collected w.heap.size,args:= #[]}]++a.defers}) hT hcall hf hb N hN (Nat.le_of_ble_eq_true hND) (Nat.le_of_ble_eq_true hlen) hres hev H2 hj2 (frK:=ZeH fr nx) (fun{K} hk=>by
  obtain⟨l,h1,h2⟩:=ZeI hk;refine⟨_,h1,fun η' w' O' nx' hp H'=>⟨H',hm.size,hm.nds,?_,U7 (hpre.trans hp) hm.ro,fun t sv ht=>?_⟩⟩
  ·rw[Z6,if_pos rfl];exact⟨⟨w.heap.size,0,0⟩,a.defers,Env.get_mono (b:= .loc nx) hp hd2,rfl,h2 (hm.defers.mono (hpre.trans hp))⟩
  ·rw[Z6]at ht;split at ht
   ·injection ht with ht;subst ht;simp only[Den]
   ·exact(hm.frame t sv ht).mono (hpre.trans hp)) (h η2 H2.len)
 refine⟨w.heap.size+1,[{target:= .collected w.heap.size,args:= #[]}],_,d,w1',f',args,w2,run_enterLoop_outer _ _ _ _ _,?_,q2,q3,q4,q5⟩;rw[hrec]at q1;exact q1
end
theorem FIN.weak{M:Mx}{O O1:Hps}{nx n1:Nat}{r r1:SV}{Q:SV->Hps->Nat->Prop}(h:∀η w v,HeapOK M η w O nx->Den η r v->∃η',η<+:η'/\HeapOK M η' w O1 n1/\Den η' r1 v)(hf:FIN M O1 n1 r1 Q):FIN M O nx r Q:=
 ⟨fun η w v H hd=>let⟨η1,h1,h2,h3⟩:=h η w v H hd;hf.out η1 w v h2 h3⟩
theorem FIN.nil{M:Mx}{O:Hps}{nx:Nat}{Q:SV->Hps->Nat->Prop}(es:Nat)(hf:FIN M ((nx, .rows es [])::O) (nx+1) (.sl (.loc nx) 0 es 0 none) Q):FIN M O nx (.val (.slice none 0 0)) Q:=by
 refine FIN.weak (fun η w v H hd=>?_) hf;have hnew:(η++ [none])[nx]?=some none:=by rw[List.getElem?_append_right (by rw[H.len];omega),H.len];simp
 refine⟨η++ [none],List.prefix_append _ _,H.push none (fun _ _=>rfl) (Nat.le_refl _) rfl rfl rfl (Nat.le_refl _) (.inl ⟨hnew,rfl⟩) (fun k f=>(feet.none (b:= .loc nx) hnew f).elim) (fun k f=>(feet.none (b:= .loc nx) hnew f).elim),?_⟩;simp only[Den]at hd⊢;exact .inl ⟨hnew,hd.1,trivial⟩
theorem FIN.nilCell{M:Mx}{O:Hps}{nx:Nat}{r:SV}{Q:SV->Hps->Nat->Prop}(i j es:Nat){row row':List SV}(hi:lkp i O=some (.box row))(hr:Z3q nx es j row=some row')(hf:FIN M ((nx, .rows es [])::setK i (.box row') O) (nx+1) r Q):FIN M O nx r Q:=
 FIN.weak (fun η w v H hd=>let⟨η',h1,h2⟩:=H.nilCell hi hr;⟨η',h1,h2,Den.mono h1 hd⟩) hf
end Go.Sx
namespace Go.Sx
open Go Go.Sort Go.Shelf Go.Proofs Go.Our
def Z8(s:List UInt8):List SV:=[.str s]
theorem Zm(l:List (List UInt8)):Zh (l.map Z8)=true:=Zz _ (fun _=>rfl) l
instance :PlF Z8:=⟨fun _=>rfl⟩
theorem leS(x y:List UInt8):decide (x<=y)=leC cmpL x y:=by
 show decide (x<=y)=!decide (Lib.compareBytes y x<0)
 rw[<-US,Go.Proofs.bytesLess_eq];rw[Bool.eq_iff_iff];simp[List.not_lt]
theorem Un(w:World)(blk m:Nat)(d:Array (List UInt8))(os:Array Obj):(grow (putRow encStr (Sort.ahead w m) blk 0 d) os).heap=(mapBlock w blk (putCells encStr 0 d)).heap++os:=by simp[grow,putRow,mapBlock,Sort.ahead]
theorem Z5R(w:World)(blk m:Nat)(d:Array (List UInt8))(os:Array Obj):w.heap.size<=(grow (putRow encStr (Sort.ahead w m) blk 0 d) os).heap.size:=by
 rw[Un];simp[mapBlock]
theorem Z4i(w:World)(blk m:Nat)(d:Array (List UInt8))(os:Array Obj){g:Nat}(hg:g<w.heap.size)(hne:g≠blk):(grow (putRow encStr (Sort.ahead w m) blk 0 d) os).heap[g]?=w.heap[g]?:=by
 rw[Un,Array.getElem?_append_left (by simpa[mapBlock]using hg)];simp only[mapBlock,Array.getElem?_modify];rw[if_neg (fun h=>hne h.symm)]
theorem Z7n(w:World)(blk m:Nat)(d:Array (List UInt8))(os:Array Obj){c:Array Value}{T:TypeId}{fz:Nat×Nat}(h:w.heap[blk]?=some (.cells c T fz)):(grow (putRow encStr (Sort.ahead w m) blk 0 d) os).heap[blk]?=some (.cells (putCells encStr 0 d c) T fz):=by
 have hlt:=(Array.getElem?_eq_some_iff.1 h).1;rw[Un,Array.getElem?_append_left (by simpa[mapBlock]using hlt)];simp only[mapBlock,Array.getElem?_modify,if_true,h,Option.map_eq_map,Option.map_some,onCells]
theorem Z7o{P:Program}{T:Tab}{ρ:Ren}(L:Lays.n190 P ρ)(ef:∀args w,(callFunc (ρ.f 190) args).run P w= .ok (.enter (ρ.f 190) args) w)(l:List (List UInt8))(hl:l.length<4611686018427387904):
 Does P T (ρ.f 190) 1 [.sl (.loc 0) 0 1 l.length none] [(0, .rows 1 (l.map Z8))] [] (fun r O nx=>r= .tup []/\O=[(0, .rows 1 ((l.mergeSort (leC cmpL)).map Z8))]/\nx=1):=by
 refine⟨fun M vs hP hT' hF hS H hd=> .inl ⟨ρ.f 190,by rw[hP];exact ef _ _,?_⟩⟩;obtain⟨P',⟨T',N',S',ro'⟩,w0,F,η0,px'⟩:=M;simp only at hP hT' hF hS H hd⊢;subst hP hT';simp only[DenL]at hd;obtain⟨v,us,rfl,hv,rfl⟩:=hd;have hsat:=(H.own.1 0 _ rfl).1;simp only[HpSat,Env.get]at hsat;simp only[Den,Env.get]at hv
 have fin:∀w' (O':Hps),FrW w0 w' F->HpSat η0 w' true (.loc 0) (.rows 1 ((l.mergeSort (leC cmpL)).map Z8))->
  ∃r O' nx' η',(r=SV.tup []/\O'=[(0,Hp.rows 1 ((l.mergeSort (leC cmpL)).map Z8))]/\nx'=1)/\η0<+:η'/\HeapOK ⟨P',⟨T',N',S',ro'⟩,w0,F,η0,px'⟩ η' w' O' nx'/\Den η' r (.tuple #[]):=by
  intro w' O' hfr hs;refine⟨_,_,_,η0,⟨rfl,rfl,rfl⟩,List.prefix_rfl,⟨H.pre,H.len,⟨fun i h hi=>?_,fun i j h h' k hi hj hij f f'=>?_⟩,hfr,H.sok⟩,?_⟩
  ·rw[Z6]at hi;split at hi
   ·rename_i e;subst e;injection hi with hi;subst hi;refine⟨hs,fun n f=>(H.own.1 0 _ rfl).2 n ?_⟩;obtain⟨e,h1,h2⟩:=f;exact⟨e,h1,h2⟩
   ·simp[lkp]at hi
  ·rw[Z6]at hi hj;split at hi
   ·rename_i e;subst e;split at hj
    ·rename_i e2;exact(hij e2.symm).elim
    ·simp[lkp]at hj
   ·simp[lkp]at hi
  ·simp only[Den,DenL];exact⟨[],rfl,rfl⟩
 rcases hsat with⟨hn,hnil⟩|⟨e,arr,Tt,fz,he,hheap,hown,hcells⟩
 ·have hl0:l=[]:=by simpa using hnil
  subst hl0
  have hv2:v= .slice none 0 0:=by
   rcases hv with⟨_,h,_⟩|⟨e,o,h,_⟩
   ·exact h
   ·rw[hn]at h;cases h
  subst hv2;refine(Any.slices_Sort_string_none L none 0 w0).mono ?_;rintro e w' ⟨rfl,rfl⟩;refine⟨_,rfl,fin _ [] (FrW.refl _ _) ?_⟩;simp only[HpSat,Env.get];exact .inl ⟨hn,by simp⟩
 ·obtain⟨hun,hsz,hle,hb0⟩:=hown trivial
  obtain⟨hel,hvv⟩:l.length<=e.cap/\v= .slice (some ⟨e.g,0,none⟩) l.length e.cap:=by
   rcases hv with⟨h,_⟩|⟨e',o,h,h2,h3,h4,h5⟩
   ·rw[he]at h;cases h
   ·rw[he]at h;cases h;simp only[Option.getD_none,Nat.zero_add,Nat.sub_zero]at h2 h3;have:=h5 (.inr trivial);rw[hb0]at this;simp only[Nat.zero_mul,Nat.add_zero]at this;subst this;exact⟨h3,h2⟩
  subst hvv;have hblk:e.g<w0.heap.size:=(Array.getElem?_eq_some_iff.1 hheap).1;have hsize:l.length<=arr.size:=by rw[hsz];omega
  have hcell:∀(i:Nat) (x:List UInt8),l[i]?=some x->arr[i]?=some (encStr x):=by
   intro i x hi;obtain⟨h1,h2⟩:=hcells i (Z8 x) (by rw[List.getElem?_map,hi];rfl);obtain⟨u,h3,h4,h5⟩:=h2 0 (.str x) rfl;rw[hb0,Nat.zero_add,Nat.mul_one,Nat.add_zero]at h3;simp only[Den]at h5;rw[h3,h5];try rfl
  have hH:Holds encStr w0 e.g 0 l.toArray:=by
   intro t ht;rw[List.size_toArray]at ht;have h4:=hcell t l[t] (List.getElem?_eq_getElem ht);refine⟨by rw[Nat.zero_add,Z5O hheap,h4];simp[ht],?_⟩;have:=hun t (by omega);simp only[World.frozen?,hheap,Nat.zero_add];simpa using this
  have hFg:F e.g:=by
   rcases(H.own.1 0 _ rfl).2 e.g ⟨e,he, .inl rfl⟩with h|h
   ·exact h
   ·have h:w0.heap.size<=e.g:=h;omega
  have hmain:=Any.slices_Sort_string L e.g 0 e.cap l w0 hH hblk hl;rw[show(fun x y:List UInt8=>decide (x<=y))=leC cmpL from funext fun x=>funext fun y=>leS x y]at hmain;refine hmain.mono ?_;rintro e1 w' ⟨rfl,n,os,rfl⟩;refine⟨_,rfl,fin _ [] ?_ ?_⟩
  ·refine⟨rfl,rfl,rfl,?_,Z5R ..,fun b hb hnF=>Z4i w0 e.g n _ os hb (fun e=>hnF (e▸hFg))⟩;simp[grow,putRow,mapBlock,Sort.ahead]
  ·simp only[HpSat,Env.get];have hsl:(l.mergeSort (leC cmpL)).length=l.length:=List.length_mergeSort l;refine .inr ⟨e,_,Tt,fz,he,Z7n w0 e.g n _ os hheap,fun _=>⟨?_,?_,?_,hb0⟩,fun i rw1 hi=>?_⟩
   ·simp only[putCells,Array.size_mapIdx];exact hun
   ·simp only[putCells,Array.size_mapIdx];exact hsz
   ·rw[List.length_map,hsl];exact hel
   ·rw[List.getElem?_map]at hi;obtain⟨x,hx,rfl⟩:=Option.map_eq_some_iff.1 hi;refine⟨rfl,fun j sv hj=>?_⟩;have hil:=(List.getElem?_eq_some_iff.1 hx).1
    match j,hj with
    |0,hj=>
     injection hj with hj;subst hj;refine⟨encStr x,?_,rfl,by simp only[Den];try rfl⟩;have hlt:i<arr.size:=by omega
     rw[hb0,Nat.zero_add,Nat.mul_one,Nat.add_zero];have hxe:=(List.getElem?_eq_some_iff.1 hx).2;have hil':i<l.length:=by omega
     simp only[putCells,Array.getElem?_mapIdx,Array.getElem?_eq_getElem hlt,Option.map_some,Nat.zero_le,true_and,Nat.zero_add,List.size_toArray,hsl,hil',if_true,Nat.sub_zero];rw[Array.getElem!_eq_getD,Array.getD_eq_getD_getElem?];simp[hx]
end Go.Sx
namespace Go.Our
section
variable {α:Type}{c:α->α->Int}
end
theorem Z7p{l:List Qd}(h:∀k (hk:k<l.length),1<=k->Xd (l[k-1]'(by omega)) l[k]<0):Rise Xd l:=by
 refine List.pairwise_iff_getElem.2 fun i j hi hj hij=>?_
 induction j with
 |zero=>omega
 |succ j ih=>
  have h1:=h (j+1) hj (by omega);simp only[Nat.add_sub_cancel]at h1;rcases Nat.lt_or_eq_of_le (Nat.le_of_lt_succ hij)with h2|rfl
  ·exact triQ.lt_trans (ih (by omega) h2) (by omega)
  ·exact h1
end Go.Our
namespace Go.Sx
open Go
def Z7q:List Nat->Hps->(Hps->Prop)->Prop
 | [],_,K=>K []
 |i::is,O,K=>match lkp i O with
  |some h=>Z7q is O fun r=>K ((i,h)::r)
  |none=>Z7q is O K
def Zb8:Hps->Hps->(Hps->Prop)->Prop
 | [],r,K=>K r
 |(i,h)::l,r,K=>Zb8 l r fun r=>K ((i,h)::r)
theorem Z1a:∀{ts:List Nat} {O:Hps} {K:Hps->Prop},Z7q ts O K->∃r,K r
 | [],O,K,h=>⟨_,h⟩
 |t::ts,O,K,h=>by
  simp only[Z7q]at h;split at h
  ·obtain⟨r,hr⟩:=Z1a h;exact⟨_,hr⟩
  ·exact Z1a h
theorem Z7r:∀{l r:Hps} {K:Hps->Prop},Zb8 l r K<->K (l++r)
 | [],r,K=>Iff.rfl
 |(t,v)::l,r,K=>by simp only[Zb8,List.cons_append,Z7r]
theorem XJ{m es:Nat}{rs:List (List SV)}(h:Zh rs=true):Zg m (.rows es rs)=true:=by simp only[Zg,Z2 _ h]
theorem WI{m es:Nat}{σ:Nat->Nat}{rs:List (List SV)}(h:Zh rs=true):Zg m (renH σ (.rows es rs))=true:=by rw[Zw _ (h:= .rows es rs) h];exact XJ h
section
variable {M:Mx}{fr:Fr}{O:Hps}{nx:Nat}
theorem LOOP.gok{body:Code}{Q:Post}(hT:TabOK M.P M.C.T)(ks ko:List Nat){X:Type}(P:X->Prop)(chg:X->Fr)(Ox:X->Hps)(n0:Nat)(μ:X->Nat)(x0:X)(hP:P x0)
 (h:ZaR ks fr fun fr0=>Z7q ko O fun O0=>(appK (chg x0) fr0 fun fr'=>Zb8 (Ox x0) O0 fun O'=>GOES M fr O nx fr' O' n0)/\
   ∀x,P x->appK (chg x) fr0 fun fr1=>Zb8 (Ox x) O0 fun O1=>run M body fr1 O1 n0 fun e fr O nx=>match e with
    | .normal=> ∃x',P x'/\μ x'<μ x/\appK (chg x') fr0 fun fr'=>Zb8 (Ox x') O0 fun O'=>GOES M fr O nx fr' O' n0
    |e=>Q e fr O nx):LOOP M body fr O nx Q:=by
 obtain⟨fr0,h⟩:=Z3m h;obtain⟨O0,h1,h2⟩:=Z1a h;simp only[Z5D,Z7r]at h1 h2;exact LOOP.inv hT P (fun x=>(chg x++fr0,Ox x++O0,n0)) μ x0 hP h1 h2
theorem LOOP.nilCell{body:Code}{Q:Post}(i j es:Nat){row row':List SV}(hi:lkp i O=some (.box row))(hr:Z3q nx es j row=some row')(k:LOOP M body fr ((nx, .rows es [])::setK i (.box row') O) (nx+1) Q):LOOP M body fr O nx Q:=
 LOOP.goes ⟨fun η a w hm=>let⟨η',hp,H⟩:=hm.heap.nilCell hi hr;⟨η',H,hm.size,hm.nds,hm.defers.mono hp,U7 hp hm.ro,fun t v ht=>(hm.frame t v ht).mono hp⟩⟩ k
end
end Go.Sx
