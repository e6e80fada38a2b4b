/- Part 8: SxDrawn, SxDrawnS, SxDrawnT, SxAuto3, CmpM, SetM, SetN, ListM, MapG, ApartM, IsoM, Sort, SxRange, SortS, SetO, SxKeep, SplitM, TagM, TermM, ValidM, ValidN, InferM, WorldM, CloseM, DrawsM, ClosR, LeastM, SxKids, Prs, MapM, FreshM, BijM, SightM, Itoa, IsoFindM, KidD, SxLent, SxPan. Conditions: as each part says. -/
import Derived.Lib.Bytealg
import Derived.Lib.Strings
import Derived.Shelf.SlSortCmp.NoneTotal
import Derived.RangeFuncNested
import Derived.Shelf.Sort.Plain
import Derived.Shelf.Slices.In.SortNone
import Derived.Lib.ItoaNum
import Derived.Shelf.Strconv.Itoa3
import Derived.RecoverIn
import Derived.Test.YtbfbokdccdagkaaGreatDoorUnm4
import Derived.Test.YtbfbokdccdagkaaGreatDoorUnm7
set_option linter.unusedVariables false
set_option linter.unusedSimpArgs false
namespace Go.Sx
open Go
def Det(v:SV):Prop:=∀η u u',Den η v u->Den η v u'->u=u'
def DetL(vs:List SV):Prop:=∀η us us',DenL η vs us->DenL η vs us'->us=us'
mutual
def detV:SV->Bool
 | .bool _| .int _ _| .str _| .ptr _ _ _ _| .val _| .mp _| .yf _=>true
 | .dfs _=>false
 | .sl _ r _ _ _=>Nat.beq r 0
 | .agg cs=>Z2T cs
 | .tup vs=>Z2T vs
 | .ifc _ v=>detV v
 | .fn _ a b=>Z2T a&&Z2T b
 | .arr _ _=>false
 | .any=>false
 | .nb _=>false
def Z2T:List SV->Bool
 | []=>true
 |c::cs=>detV c&&Z2T cs
end
mutual
theorem Det.of:∀{v:SV},detV v=true->Det v
 | .bool _,_=>fun η u u' h h'=>by simp only[Den]at h h';rw[h,h']
 | .int _ _,_=>fun η u u' h h'=>by simp only[Den]at h h';rw[h,h']
 | .str _,_=>fun η u u' h h'=>by simp only[Den]at h h';rw[h,h']
 | .val _,_=>fun η u u' h h'=>by simp only[Den]at h h';rw[h.1,h'.1]
 | .mp b,_=>fun η u u' h h'=>by
   simp only[Den]at h h';obtain⟨e,h1,rfl⟩:=h;obtain⟨e',h2,rfl⟩:=h';rw[h1]at h2;injection h2 with h2;injection h2 with h2;rw[h2]
 | .ptr b r es c,_=>fun η u u' h h'=>by
   simp only[Den]at h h';obtain⟨e,h1,rfl⟩:=h;obtain⟨e',h2,rfl⟩:=h';rw[h1]at h2;injection h2 with h2;injection h2 with h2;rw[h2]
 | .sl b r es len lim,hd=>fun η u u' h h'=>by
   simp only[detV]at hd;have hd:=Zq hd;simp only[Den]at h h';rcases h with⟨h1,rfl,_⟩|⟨e,o,h1,rfl,_,_,h2⟩
   ·rcases h' with⟨h1',rfl,_⟩|⟨e',o',h1',rfl,_,_,h2'⟩
    ·rfl
    ·rw[h1]at h1';cases h1'
   ·rcases h' with⟨h1',rfl,_⟩|⟨e',o',h1',rfl,_,_,h2'⟩
    ·rw[h1]at h1';cases h1'
    ·rw[h1]at h1';injection h1' with h1';injection h1' with h1';subst h1'
     rw[h2 (.inr hd),h2' (.inr hd)]
 | .agg cs,hd=>fun η u u' h h'=>by
   simp only[detV]at hd;simp only[Den]at h h';obtain⟨us,rfl,h1,_⟩:=h;obtain⟨us',rfl,h2,_⟩:=h';rw[DetL.of hd η us us' h1 h2]
 | .tup cs,hd=>fun η u u' h h'=>by
   simp only[detV]at hd;simp only[Den]at h h';obtain⟨us,rfl,h1⟩:=h;obtain⟨us',rfl,h2⟩:=h';rw[DetL.of hd η us us' h1 h2]
 | .ifc t v,hd=>fun η u u' h h'=>by
   simp only[detV]at hd;simp only[Den]at h h';obtain⟨us,rfl,h1⟩:=h;obtain⟨us',rfl,h2⟩:=h';rw[Det.of hd η us us' h1 h2]
 | .fn f a b,hd=>fun η u u' h h'=>by
   simp only[detV,Bool.and_eq_true]at hd;simp only[Den]at h h';obtain⟨us,vs,rfl,h1,h3⟩:=h;obtain⟨us',vs',rfl,h2,h4⟩:=h';rw[DetL.of hd.1 η us us' h1 h2,DetL.of hd.2 η vs vs' h3 h4]
 | .arr _ _,hd=>by simp[detV]at hd
 | .any,hd=>by simp[detV]at hd
 | .nb _,hd=>by simp[detV]at hd
 | .dfs _,hd=>by simp[detV]at hd
 | .yf b,_=>fun η u u' h h'=>by
   simp only[Den]at h h';obtain⟨e,h1,rfl⟩:=h;obtain⟨e',h2,rfl⟩:=h';rw[h1]at h2;injection h2 with h2;injection h2 with h2;rw[h2]
theorem DetL.of:∀{vs:List SV},Z2T vs=true->DetL vs
 | [],_=>fun η us us' h h'=>by simp only[DenL]at h h';rw[h,h']
 |c::cs,hd=>fun η us us' h h'=>by
  simp only[Z2T,Bool.and_eq_true]at hd;simp only[DenL]at h h';obtain⟨u,r,rfl,h1,h2⟩:=h;obtain⟨u',r',rfl,h1',h2'⟩:=h';rw[Det.of hd.1 η u u' h1 h1',DetL.of hd.2 η r r' h2 h2']
end
def Wo:Hps->List (Blk×Hp)
 | []=>[]
 |(i,h)::r=>(.loc i,h)::Wo r
def Z5v(C:Cx)(O:Hps):Cx:=⟨C.T,C.N,Wo O++C.S,C.ro⟩
def Z28(C:Cx):Cx:=⟨{C.T with globs:=[],gplain:=rfl},C.N,[],C.ro⟩
def shMx(M:Mx)(O:Hps)(η:Env)(w:World):Mx:=⟨M.P,Z5v M.C O,w,fun _=>False,η,none⟩
def blMx(M:Mx)(η:Env)(w:World):Mx:=⟨M.P,Z28 M.C,w,fun _=>False,η,none⟩
def Z4e:SV->Prop->Prop
 | .bool _,K| .int _ _,K| .str _,K| .ptr _ _ _ _,K| .val _,K=>K
 | .agg cs,K=>match Z2T cs with|true=>K|false=>NEED (Det (.agg cs)) K
 | .tup cs,K=>match Z2T cs with|true=>K|false=>NEED (Det (.tup cs)) K
 |v,K=>NEED (Det v) K
def Z8P(N:Nat)(C:Cx)(o:Oper)(fr:Fr)(nx:Nat)(K:SV->Prop):Prop:=
 match Jr N o.dst with
 |false=>STOP "slot"
 |true=>match o.op with
  | .move x=>match Jq fr x with|some v=>K v|none=>STOP "operand"
  | .assign x=>match Jq fr x with|some v=>K v|none=>STOP "operand"
  |op=>match Zeg op with
   |true=>STOP "writes"
   |false=>(opR C (Jq fr) [] nx op).gv fun v=>Z4e v (K v)
structure ADD(M:Mx)(o:Oper)(fr:Fr)(O:Hps)(nx:Nat)(K:SV->Hps->Nat->Prop):Prop where
 mkH::
 hout:∀η w,HeapOK M η w O nx->Z1u (shMx M O η w) o (Jq fr) [] nx fun v O2 nx=>K v (O2++O) nx
theorem ADD.mk{M:Mx}{o:Oper}{fr:Fr}{O:Hps}{nx:Nat}{K:SV->Hps->Nat->Prop}(h:∀η w,Z1u (shMx M O η w) o (Jq fr) [] nx fun v O2 nx=>K v (O2++O) nx):ADD M o fr O nx K:=⟨fun η w _=>h η w⟩
def Zao(M:Mx)(m:Nat)(o:Oper)(fr:Fr)(O:Hps)(nx:Nat)(K:SV->Hps->Nat->Prop):Prop:=
 match m with
 |0=>Z1u M o (Jq fr) O nx K
 |1=>Z8P M.C.N (Z28 M.C) o fr nx fun v=>K v O nx
 |2=>Z8P M.C.N (Z5v M.C O) o fr nx fun v=>K v O nx
 |_=>ADD M o fr O nx K
inductive Plan where
 |nil
 |take (i m:Nat) (t:Plan)
 |fork (i mi j mj:Nat) (a b:Plan)
 |fork3 (i mi j mj k mk:Nat) (a b c:Plan)
 |join (t:Plan)
def ZU:List (Nat×Nat)->Plan
 | []=> .nil
 |(i,m)::r=> .take i m (ZU r)
def Plan.depth:Plan->Nat
 | .nil=>0
 | .take _ _ t=>t.depth+1
 | .fork _ _ _ _ a _=>a.depth+1
 | .fork3 _ _ _ _ _ _ a _ _=>a.depth+1
 | .join t=>t.depth
structure FORK(A B:Prop):Prop where
 a:A
 b:B
structure JOIN(A:Fr->Prop)(fr:Fr):Prop where
 out:∃fr',(∀t,lkp t fr'=lkp t fr)/\A fr'
theorem JOIN.go{A:Fr->Prop}{fr:Fr}(h:A fr):JOIN A fr:=⟨fr,fun _=>rfl,h⟩
theorem JOIN.ij{A:Fr->Prop}{fr:Fr}{a b c s:Nat}{x y z g:SV}(h:A ((b,y)::(c,z)::(a,x)::(s,g)::fr))(hd:(a≠s/\b≠s/\c≠s)/\a≠b/\a≠c/\b≠c):JOIN A ((b,y)::(s,g)::(c,z)::(s,g)::(a,x)::(s,g)::fr):=by
 refine⟨_,fun t=>?_,h⟩;obtain⟨⟨h1,h2,h3⟩,h4,h5,h6⟩:=hd;simp only[Z8];repeat' split
 all_goals first|rfl|(exfalso;omega)
theorem JOIN.ji{A:Fr->Prop}{fr:Fr}{a b c s:Nat}{x y z g:SV}(h:A ((b,y)::(c,z)::(a,x)::(s,g)::fr))(hd:(a≠s/\b≠s/\c≠s)/\a≠b/\a≠c/\b≠c):JOIN A ((c,z)::(s,g)::(a,x)::(s,g)::(b,y)::(s,g)::fr):=by
 refine⟨_,fun t=>?_,h⟩;obtain⟨⟨h1,h2,h3⟩,h4,h5,h6⟩:=hd;simp only[Z8];repeat' split
 all_goals first|rfl|(exfalso;omega)
def oneD(M:Mx)(ops:List Oper)(i m:Nat)(fr:Fr)(O:Hps)(nx:Nat)(K:Fr->Hps->Nat->Prop):Prop:=
 match nth ops i with
 |none=>STOP "order"
 |some o=>match o.guard with
  |none=>Zao M m o fr O nx fun v O nx=>putK o.dst v fr fun fr=>K fr O nx
  |some (j,want)=>
   match VJ ops j with
   |none=>STOP "guard"
   |some s=>match lkp s fr with
    |some (.bool b)=>IF b
     (fun J=>match want with
      |true=>Zao M m o ((s, .bool true)::fr) O nx fun v O nx=>putK o.dst v ((s, .bool true)::fr) fun fr=>J fr O nx
      |false=>match Jr M.C.N o.dst with|true=>putK o.dst YH ((s, .bool true)::fr) fun fr=>J fr O nx|false=>STOP "slot")
     (fun J=>match want with
      |false=>Zao M m o ((s, .bool false)::fr) O nx fun v O nx=>putK o.dst v ((s, .bool false)::fr) fun fr=>J fr O nx
      |true=>match Jr M.C.N o.dst with|true=>putK o.dst YH ((s, .bool false)::fr) fun fr=>J fr O nx|false=>STOP "slot")
     K
    |some (.tup [])=>match Jr M.C.N o.dst with|true=>putK o.dst YH fr fun fr=>K fr O nx|false=>STOP "slot"
    |_=>STOP "guard"
def Zh8(M:Mx)(ops:List Oper)(i m:Nat)(_:Plan)(rest:RunT):RunT:=fun fr O nx K=>oneD M ops i m fr O nx fun fr O nx=>rest fr O nx K
def Zh9(M:Mx)(ops:List Oper)(i mi j mj:Nat)(_ _:Plan)(a b:RunT):RunT:=fun fr O nx K=>FORK (oneD M ops i mi fr O nx fun fr O nx=>a fr O nx K) (oneD M ops j mj fr O nx fun fr O nx=>b fr O nx K)
def Zg7(M:Mx)(ops:List Oper)(i mi j mj k mk:Nat)(_ _ _:Plan)(a b c:RunT):RunT:=fun fr O nx K=>FORK (oneD M ops i mi fr O nx fun fr O nx=>a fr O nx K) (FORK (oneD M ops j mj fr O nx fun fr O nx=>b fr O nx K) (oneD M ops k mk fr O nx fun fr O nx=>c fr O nx K))
def Zha(_:Plan)(t:RunT):RunT:=fun fr O nx K=>JOIN (fun fr=>t fr O nx K) fr
noncomputable def runD (M:Mx)(ops:List Oper)(p:Plan):RunT:=Plan.rec (motive:=fun _=>RunT) Zec (Zh8 M ops) (Zh9 M ops) (Zg7 M ops) Zha p
theorem FORK.skip{M:Mx}{ops:List Oper}{i mi j mj k mk:Nat}{p:Plan}{fr:Fr}{O:Hps}{nx:Nat}{K:Fr->Hps->Nat->Prop}(a b c s:Nat)
 (ha:runD M ops p ((b,YH)::(c,YH)::(a,YH)::(s, .bool false)::fr) O nx K->oneD M ops i mi fr O nx fun fr O nx=>runD M ops (.take k mk (.take j mj (.join p))) fr O nx K)
 (hb:runD M ops p ((b,YH)::(c,YH)::(a,YH)::(s, .bool false)::fr) O nx K->oneD M ops j mj fr O nx fun fr O nx=>runD M ops (.take i mi (.take k mk (.join p))) fr O nx K)
 (r:runD M ops p ((b,YH)::(c,YH)::(a,YH)::(s, .bool false)::fr) O nx K):
 FORK (oneD M ops i mi fr O nx fun fr O nx=>runD M ops (.take k mk (.take j mj (.join p))) fr O nx K) (oneD M ops j mj fr O nx fun fr O nx=>runD M ops (.take i mi (.take k mk (.join p))) fr O nx K):=⟨ha r,hb r⟩
theorem oneD.pass{M:Mx}{ops:List Oper}{i m:Nat}{fr:Fr}{O:Hps}{nx:Nat}{K:Fr->Hps->Nat->Prop}{o:Oper}{g s a:Nat}{e:Bool}
 (h1:nth ops i=some o) (h2:o.guard=some (g,true)) (h3:VJ ops g=some s) (h4:lkp s fr=some (.bool e)) (he:e=false) (h5:o.dst=some a) (h6:Nat.blt a M.C.N=true)
 (h:K ((a,YH)::(s, .bool false)::fr) O nx):oneD M ops i m fr O nx K:=by
 subst he;unfold oneD;simp only[h1,h2,h3,h4,h5,Jr,h6,putK];exact IF.ff h
theorem FORK.pass{M:Mx}{ops:List Oper}{i mi j mj k mk:Nat}{p:Plan}{fr:Fr}{O:Hps}{nx:Nat}{K:Fr->Hps->Nat->Prop}(a b c s:Nat){oi oj ok:Oper}{gi gj gk:Nat}{e:Bool}
 (hi:nth ops i=some oi) (hj:nth ops j=some oj) (hk:nth ops k=some ok)
 (ei:oi.guard=some (gi,true)) (ej:oj.guard=some (gj,true)) (ek:ok.guard=some (gk,true))
 (si:VJ ops gi=some s) (sj:VJ ops gj=some s) (sk:VJ ops gk=some s)
 (di:oi.dst=some a) (dj:oj.dst=some b) (dk:ok.dst=some c)
 (ni:Nat.blt a M.C.N=true) (nj:Nat.blt b M.C.N=true) (nk:Nat.blt c M.C.N=true)
 (hf:lkp s fr=some (.bool e)) (he:e=false)
 (hd:(a≠s/\b≠s/\c≠s)/\a≠b/\a≠c/\b≠c)
 (r:runD M ops p ((b,YH)::(c,YH)::(a,YH)::(s, .bool false)::fr) O nx K):
 FORK (oneD M ops i mi fr O nx fun fr O nx=>runD M ops (.take k mk (.take j mj (.join p))) fr O nx K) (oneD M ops j mj fr O nx fun fr O nx=>runD M ops (.take i mi (.take k mk (.join p))) fr O nx K):=by
 have l1:∀{v:SV} {t:Nat},t≠s->lkp s ((t,v)::(s, .bool false)::fr)=some (.bool false):=fun h=>by
  rw[Z8,if_neg (fun h'=>h h'.symm),Z8,if_pos rfl]
 obtain⟨⟨a1,a2,a3⟩,hd2⟩:=id hd
 have l2:∀{v w:SV} {t u:Nat},t≠s->u≠s->lkp s ((t,v)::(s, .bool false)::(u,w)::(s, .bool false)::fr)=some (.bool false):=fun h _=>by
  rw[Z8,if_neg (fun h'=>h h'.symm),Z8,if_pos rfl]
 constructor
 ·refine oneD.pass hi ei si hf he di ni ?_;show oneD M ops k mk _ O nx fun fr O nx=>runD M ops (.take j mj (.join p)) fr O nx K
  refine oneD.pass hk ek sk (l1 a1) rfl dk nk ?_;show oneD M ops j mj _ O nx fun fr O nx=>runD M ops (.join p) fr O nx K
  refine oneD.pass hj ej sj (l2 a3 a1) rfl dj nj ?_;exact JOIN.ij r hd
 ·refine oneD.pass hj ej sj hf he dj nj ?_;show oneD M ops i mi _ O nx fun fr O nx=>runD M ops (.take k mk (.join p)) fr O nx K
  refine oneD.pass hi ei si (l1 a2) rfl di ni ?_;show oneD M ops k mk _ O nx fun fr O nx=>runD M ops (.join p) fr O nx K
  refine oneD.pass hk ek sk (l2 a1 a2) rfl dk nk ?_;exact JOIN.ji r hd
def Vb(acc:List Nat)(o:Oper):Nat:=o.after.foldl (fun s e=>if Region.binds .any e then s|||2^e.on|||acc.getD e.on 0 else s) 0
def Z0V:List Oper->List Nat->List Nat
 | [],acc=>acc
 |o::r,acc=>Z0V r (acc++ [Vb acc o])
def Z29(i:Nat):Nat->List Nat->List Nat
 |0,l=>i::l
 |_,l=>l
def Z0B(m:Nat):Bool:=m==0||m==3
def ZA:Plan->List Nat
 | .nil=>[]
 | .take i 0 t=>i::ZA t
 | .take _ _ t=>ZA t
 | .fork i mi j mj a b=>Z29 i mi (Z29 j mj (ZA a++ZA b))
 | .fork3 i mi j mj k mk a b c=>Z29 i mi (Z29 j mj (Z29 k mk (ZA a++(ZA b++ZA c))))
 | .join t=>ZA t
def XP(ops:Array Oper)(ms:List Nat):Plan->Array Bool->Bool
 | .nil,l=>(Region.ready .any ops l).isEmpty
 | .take i m rest,l=>
   (match m with
    |0=>Region.ready .any ops l==[i]
    |1=>(Region.ready .any ops l).contains i&&Region.free .any ops l i&& (ZA rest).all (fun k=>k !=i)
    |2=>(Region.ready .any ops l).contains i&&Region.free .any ops l i&& (ZA rest).all (fun k=>k !=i&& (ms.getD k 0).testBit i)
    |_=>Region.ready .any ops l==[i])&&
   XP ops ms rest (l.setIfInBounds i true)
 | .fork i mi j mj a b,l=>Region.ready .any ops l==[i,j]&&Z0B mi&&Z0B mj&&a.depth==b.depth&&XP ops ms a (l.setIfInBounds i true)&&XP ops ms b (l.setIfInBounds j true)
 | .fork3 i mi j mj k mk a b c,l=>Region.ready .any ops l==[i,j,k]&&Z0B mi&&Z0B mj&&Z0B mk&&a.depth==b.depth&&a.depth==c.depth&&XP ops ms a (l.setIfInBounds i true)&&XP ops ms b (l.setIfInBounds j true)&&XP ops ms c (l.setIfInBounds k true)
 | .join t,l=>XP ops ms t l
def Zap(ops:Array Oper)(steps:Plan):Bool:=
 Region.noSelect ops&&steps.depth==ops.size&&XP ops (Z0V ops.toList []) steps (Array.replicate ops.size false)
end Go.Sx
namespace Go.Sx
open Go
theorem Z3t:∀(os:List Oper) (acc:List Nat),(Z0V os acc).take acc.length=acc/\∀j o,os[j]?=some o->(Z0V os acc)[acc.length+j]?=some (Vb ((Z0V os acc).take (acc.length+j)) o)
 | [],acc=>⟨by simp[Z0V],fun j o h=>by simp at h⟩
 |o::os,acc=>by
  simp only[Z0V];obtain⟨h1,h2⟩:=Z3t os (acc++ [Vb acc o]);simp only[List.length_append,List.length_singleton]at h1 h2
  have h0:(Z0V os (acc++ [Vb acc o])).take acc.length=acc:=by
   have:=congrArg (List.take acc.length) h1;rw[List.take_take]at this;simpa using this
  refine⟨h0,fun j o' hj=>?_⟩;cases j with
  |zero=>
   simp at hj;subst hj;rw[Nat.add_zero,h0];have:=congrArg (fun l:List Nat=>l[acc.length]?) h1;simpa[List.getElem?_take]using this
  |succ j=>
   have:=h2 j o' (by simpa using hj);rw[show acc.length+(j+1)=acc.length+1+j by omega];exact this
theorem Z2U{acc:List Nat}{o:Oper}{i:Nat}(h:(Vb acc o).testBit i=true):∃e∈o.after,Region.binds .any e=true/\(e.on=i\/(acc.getD e.on 0).testBit i=true):=by
 unfold Vb at h;rw[<-Array.foldl_toList]at h
 have key:∀(es:List Edge) (s:Nat),(es.foldl (fun s e=>if Region.binds .any e then s|||2^e.on|||acc.getD e.on 0 else s) s).testBit i=true->
  s.testBit i=true\/∃e∈es,Region.binds .any e=true/\(e.on=i\/(acc.getD e.on 0).testBit i=true):=by
  intro es
  induction es with
  |nil=>intro s h;exact .inl h
  |cons e es ih=>
   intro s h;simp only[List.foldl_cons]at h;rcases ih _ h with h|⟨e',he',h⟩
   ·split at h
    ·rename_i hb;simp only[Nat.testBit_or,Bool.or_eq_true]at h;rcases h with(h|h)|h
     ·exact .inl h
     ·refine .inr ⟨e,List.mem_cons_self ..,hb, .inl ?_⟩;rw[Nat.testBit_two_pow]at h;simpa using h
     ·exact .inr ⟨e,List.mem_cons_self ..,hb, .inr h⟩
    ·exact .inl h
   ·exact .inr ⟨e',List.mem_cons_of_mem _ he',h⟩
 rcases key _ _ h with h|⟨e,he,h⟩
 ·simp at h
 ·exact⟨e,by simpa using he,h⟩
theorem Z5w{ops:Array Oper}{l:Array Bool}(hc:Closed .any ops l){i:Nat}:∀(k:Nat),((Z0V ops.toList []).getD k 0).testBit i=true->l.getD k false=true->l.getD i false=true:=by
 intro k
 induction k using Nat.strongRecOn with
 |_ k ih=>
  intro h hk;cases hg:(Z0V ops.toList [])[k]? with
  |none=>rw[List.getD_eq_getElem?_getD,hg]at h;simp at h
  |some m=>
   have hlt:k<ops.size:=by
    rcases Nat.lt_or_ge k ops.size with h'|h'
    ·exact h'
    ·rw[<-hc.1]at h';simp[Array.getElem?_eq_none h']at hk
   have ho:ops[k]?=some ops[k]:=Array.getElem?_eq_getElem hlt;have hm:=(Z3t ops.toList []).2 k ops[k] (by simp);simp only[List.length_nil,Nat.zero_add]at hm;rw[List.getD_eq_getElem?_getD,hm,Option.getD_some]at h;obtain⟨e,he,hb,h⟩:=Z2U h;have hon:=hc.2 k _ ho hk e he hb;rcases h with rfl|h
   ·exact hon
   ·rw[List.getD_eq_getElem?_getD,List.getElem?_take]at h;split at h
    ·rename_i hlt';exact ih e.on hlt' (by rw[List.getD_eq_getElem?_getD];exact h) hon
    ·simp at h
def agree(w w':World):Prop:=∀k,k<w.heap.size->w'.heap[k]?=w.heap[k]?
theorem agree.refl(w:World):agree w w:=fun _ _=>rfl
theorem agree.trans{a b c:World}(h:agree a b)(k:agree b c):agree a c:=fun n hn=>by
 have h1:=h n hn
 have hlt:n<b.heap.size:=by
  rw[Array.getElem?_eq_getElem hn]at h1;exact(Array.getElem?_eq_some_iff.1 h1).1
 rw[k n hlt,h1]
section
variable {M:Mx}{η:Env}{w:World}{O:Hps}{nx:Nat}
theorem Z2a{C:Cx}:∀{O:Hps} {j:Nat},lkpB (.loc j) (Wo O++C.S)=XE C O (.loc j)
 | [],j=>by simp[Wo,XE,lkp]
 |(i,h)::r,j=>by
  have ih:=Z2a (C:=C) (O:=r) (j:=j);simp only[Wo,List.cons_append,lkpB,Z9J,XE,lkp];cases e:Nat.beq j i
  ·simp only[e];rw[ih];rfl
  ·simp only[e]
theorem Z8Q{C:Cx}{O:Hps}{b:Blk}:lkS (Z5v C O) b=XE C O b:=by
 cases b with
 |glob g=>rfl
 |loc j=>exact Z2a
theorem HeapOK.read(H:HeapOK M η w O nx){w':World}(hag:agree w w'):HeapOK (shMx M O η w') η w' [] nx:=by
 refine⟨List.prefix_rfl,H.len,⟨fun i h hi=>by simp[lkp]at hi,fun i j h h' n hi=>by simp[lkp]at hi⟩,FrW.refl _ _,fun b h hb=>?_⟩;have hb':XE M.C O b=some h:=by rw[<-Z8Q];exact hb
 have hsat:=H.look hb';have hag':∀k,feet η w b h k->w'.heap[k]?=w.heap[k]?:=fun k f=>hag _ (hsat.feet_lt f);have hs':=hsat.keep hag';exact⟨hs',fun k f=>⟨hs'.feet_lt f,fun h=>h⟩⟩
theorem HeapOK.blind(hl:η.length=nx)(w:World):HeapOK (blMx M η w) η w [] nx:=
 ⟨List.prefix_rfl,hl,⟨fun i h hi=>by simp[lkp]at hi,fun i j h h' n hi=>by simp[lkp]at hi⟩,FrW.refl _ _,fun b h hb=>by cases b<;>simp[blMx,Z28,lkS,lkpB,lkp]at hb⟩
theorem HeapOK.join(H:HeapOK M η w O nx){η':Env}{w':World}{O2:Hps}{nx2:Nat}(H2:HeapOK (shMx M O η w) η' w' O2 nx2):HeapOK M η' w' (O2++O) nx2/\agree w w':=by
 have hag:agree w w':=fun k hk=>H2.fr.block k hk (fun h=>h);have hp:η<+:η':=H2.pre
 have old:∀{i:Nat} {h:Hp},lkp i O=some h->HpSat η' w' true (.loc i) h/\∀k,feet η' w' (.loc i) h k->feet η w (.loc i) h k/\k<w.heap.size:=by
  intro i h hi;obtain⟨hsat,hF⟩:=H.own.1 i h hi;have hk:∀k,feet η w (.loc i) h k->w'.heap[k]?=w.heap[k]?:=fun k f=>hag _ (hsat.feet_lt f);refine⟨(hsat.keep (w':=w') hk).mono hp,fun k f=>?_⟩;have f':=H.stands hp hi hk f;exact⟨f',hsat.feet_lt f'⟩
 refine⟨⟨H.pre.trans hp,H2.len,⟨fun i h hi=>?_,fun i j h h' k hi hj hij f f'=>?_⟩,H.fr.trans H2.fr (fun n hn=>hn.elim),H.sok⟩,hag⟩
 ·rcases XL hi with hi|⟨_,hi⟩
  ·obtain⟨h1,h2⟩:=H2.own.1 i h hi;refine⟨h1,fun k f=> .inr ?_⟩;rcases h2 k f with h3|h3
   ·exact h3.elim
   ·exact Nat.le_trans H.fr.size h3
  ·obtain⟨h1,h2⟩:=old hi;exact⟨h1,fun k f=>(H.own.1 i h hi).2 k (h2 k f).1⟩
 ·rcases XL hi with hi|⟨_,hi⟩
  ·rcases XL hj with hj|⟨_,hj⟩
   ·exact H2.own.2 i j h h' k hi hj hij f f'
   ·have h1:=((old hj).2 k f').2;rcases(H2.own.1 i h hi).2 k f with h3|h3
    ·exact h3.elim
    ·have h3:w.heap.size<=k:=h3;omega
  ·rcases XL hj with hj|⟨_,hj⟩
   ·have h1:=((old hi).2 k f).2;rcases(H2.own.1 j h' hj).2 k f' with h3|h3
    ·exact h3.elim
    ·have h3:w.heap.size<=k:=h3;omega
   ·exact H.own.2 i j h h' k hi hj hij ((old hi).2 k f).1 ((old hj).2 k f').1
theorem Z6O{v:SV}{K:Prop}(h:Z4e v K):Det v/\K:=by
 cases v with
 |agg cs=>
  simp only[Z4e]at h;split at h
  ·rename_i e;exact⟨Det.of (by simpa only[detV]using e),h⟩
  ·exact⟨h.p,h.k⟩
 |tup cs=>
  simp only[Z4e]at h;split at h
  ·rename_i e;exact⟨Det.of (by simpa only[detV]using e),h⟩
  ·exact⟨h.p,h.k⟩
 |_=>first|exact⟨h.p,h.k⟩|exact⟨Det.of rfl,h⟩
theorem Z0C{P:Program}{C':Cx}(hT:TabOK P C'.T){N:World->Prop}{o:Oper}{a:Act}{fr:Fr}{nx N0:Nat}{K:SV->Prop}(hf:FrOK η a fr)
 (hN:∀w',N w'->HeapOK ⟨P,C',w',fun _=>False,η,none⟩ η w' [] nx) (hw:N w) (h:Z8P N0 C' o fr nx K):
 Jr N0 o.dst=true/\∃u v,(∀w',N w'->(execOp a.eval o).run P w'= .ok (.value u) w'\/((execOp a.eval o).run P w'= .ok .skip w'/\u=undef))/\Den η v u/\K v:=by
 unfold Z8P at h;split at h
 ·exact h.out.elim
 rename_i hd;refine⟨hd,?_⟩;split at h
 ·rename_i x ho;split at h
  case h_2=>exact h.out.elim
  rename_i v hv;exact⟨a.eval x,v,fun w' _=> .inl (by simp[execOp,ho]),Yi hf hv,h⟩
 ·rename_i x ho;split at h
  case h_2=>exact h.out.elim
  rename_i v hv;exact⟨a.eval x,v,fun w' _=> .inl (by simp[execOp,ho]),Yi hf hv,h⟩
 ·split at h
  ·exact h.out.elim
  rename_i hst;obtain⟨v,hok,h⟩:=Res.gv_ok h;obtain⟨hdet,h⟩:=Z6O h
  have one:∀w',N w'->∃u,((execOp a.eval o).run P w'= .ok (.value u) w'\/((execOp a.eval o).run P w'= .ok .skip w'/\u=undef))/\Den η v u:=by
   intro w' hw';have H:=hN w' hw';obtain⟨u,w'',η'',h1,h2,h3,h4,h5⟩:=Z46 (M:=⟨P,C',w',fun _=>False,η,none⟩) (w:=w') (ρ:=a.eval) ⟨H,hT,fun x sv hx=>Yi hf hx⟩ o (hok [] nx);have he:η''=η:=(h2.eq_of_length (by rw[H.len,h3.len])).symm;subst he;have hww:=h5 hst rfl;subst hww;exact⟨u,h1,h4⟩
  obtain⟨u,h1,h2⟩:=one w hw;refine⟨u,v,fun w' hw'=>?_,h2,h⟩;obtain⟨u',h3,h4⟩:=one w' hw';rw[hdet η u u' h2 h4];exact h3
end
def SS(ks:List Nat)(wc:World)(l:Array Bool)(w:World):Prop:=(∀k∈ks,l.getD k false=false)->agree wc w
section
variable {M:Mx}{ops:Array Oper}{Q:Exit->Act->World->Prop}
theorem Xw{i m:Nat}{rest:Plan}(h:m≠0):ZA (.take i m rest)=ZA rest:=by
 cases m with
 |zero=>exact(h rfl).elim
 |succ m=>rfl
theorem Z5x{i:Nat}{rest:Plan}:ZA (.take i 0 rest)=i::ZA rest:=rfl
theorem Wp{l:Array Bool}{i:Nat}(h:l.getD i true=false):l.getD i false=false:=by
 rcases Nat.lt_or_ge i l.size with h'|h'
 ·simp[h']at h⊢;exact h
 ·simp[Array.getElem?_eq_none h']at h
theorem Ug{η:Env}{fr:Fr}{O:Hps}{nx:Nat}{a:Act}{w:World}(hm:Models M η fr O nx a w){o:Oper}(hd:Jr M.C.N o.dst=true){u:Value}{v:SV}(hv:Den η v u){Kp:Fr->Prop}(hk:putK o.dst v fr Kp):
 ∃fr',Kp fr'/\Models M η fr' O nx (a.put o.dst u) w:=hm.put hd List.prefix_rfl hm.heap hv hk
theorem Vr(hQ:∀c a w, ¬Q (.panic c) a w)(hs:Region.noSelect ops=true){i n:Nat}{o:Oper}{l:Array Bool}{ks:List Nat}(ho:ops[i]?=some o)(hready:i∈Region.ready .any ops l)(hfree:Region.free .any ops l i=true)(hne:∀k∈ks,k≠i)(hc:Closed .any ops l)
 {N:World->Prop} {wc:World} (hN:∀l w,Closed .any ops l->l.getD i true=false->SS ks wc l w->N w) {a:Act} {w:World} {u:Value} (hy:YieldsN M.P ops N o u a) (hag:agree wc w)
 (h:wpH M.fence M.P .any ops Q (SS ks wc) n (l.setIfInBounds i true) (a.put o.dst u) w):wpH M.fence M.P .any ops Q (SS ks wc) (n+1) l a w:=by
 refine Zan M.all ho (Region.noSelect_spec hs) (fun c a w hq=>(hQ _ _ _ hq).elim) hN (fun l' w' hc' hun hr hS hk=>hS fun k hk'=>?_) n l a w hc (Region.free_spec ho hfree) hready hy (fun _=>hag) (fun _=>hag) h;rw[getD_set_ne false (Ne.symm (hne k hk'))];exact hk k hk'
theorem HeapOK.drawn{η:Env}{w:World}{O:Hps}{nx:Nat}(H:HeapOK M η w O nx){n:Nat}(hn:w.drawn<=n):HeapOK M η {w with drawn:=n} O nx:=
 ⟨H.pre,H.len,H.own.still rfl,⟨H.fr.os,H.fr.tape,H.fr.output,Nat.le_trans H.fr.drawn hn,H.fr.size,H.fr.block⟩,H.sok⟩
theorem Z5y{m:Nat}(h:Z0B m=true):m=0\/m=3:=by
 unfold Z0B at h;simpa using h
theorem ZM{i m:Nat}{l:List Nat}{x:Nat}(h:x∈l):x∈Z29 i m l:=by
 cases m with
 |zero=>exact List.mem_cons_of_mem _ h
 |succ m=>exact h
theorem Jy{i:Nat}{l:List Nat}:i∈Z29 i 0 l:=List.mem_cons_self ..
theorem ZeS(hT:TabOK M.P M.C.T){i m:Nat}(hmode:m=0\/m=3){fr:Fr}{O:Hps}{nx:Nat}{Kn:Fr->Hps->Nat->Prop}(h:oneD M ops.toList i m fr O nx Kn){η:Env}{a:Act}{w:World}(hm:Models M η fr O nx a w){R:Act->World->Prop}
 (hR:∀{fr:Fr} {O:Hps} {nx:Nat} {η:Env} {a:Act} {w':World},Kn fr O nx->Models M η fr O nx a w'->(m=3->agree w w')->R a w'):wpOpIn M.fence 0 M.P ops Q i R a w:=by
 unfold oneD at h;split at h
 ·exact h.out.elim
 rename_i o ho;have ho:ops[i]?=some o:=by rw[JZ]at ho;simpa using ho
 have skip:∀{fr':Fr},Models M η fr' O nx a w->Region.wanted o (yielded ops a.tmps)≠true->(match Jr M.C.N o.dst with|true=>putK o.dst YH fr' fun fr=>Kn fr O nx|false=>STOP "slot")->wpOpIn M.fence 0 M.P ops Q i R a w:=by
  intro fr' hm' hw h;split at h
  case h_2=>exact h.out.elim
  rename_i hd;obtain⟨fr2,h1,h2⟩:=Ug hm' hd (Jv η) h;unfold wpOpIn;simp only[ho];rw[if_neg hw];exact⟨fun f _=>M.all f,hR h1 h2 fun _=>agree.refl w⟩
 have go:∀{fr':Fr},Models M η fr' O nx a w->Region.wanted o (yielded ops a.tmps)=true->(Zao M m o fr' O nx fun v O nx=>putK o.dst v fr' fun fr=>Kn fr O nx)->wpOpIn M.fence 0 M.P ops Q i R a w:=by
  intro fr' hm' hw h;unfold wpOpIn;simp only[ho];rw[if_pos hw];rcases hmode with rfl|rfl
  ·have h:Z1u M o (Jq fr') O nx fun v O nx=>putK o.dst v fr' fun fr=>Kn fr O nx:=h;refine(JO hT hm' (fun x sv hx=>Yi hm'.frame hx) h fun u v O' nx' η' w' hd hp hH hv hk=>?_);obtain⟨fr2,h1,h2⟩:=hm'.put hd hp hH hv hk;exact hR h1 h2 fun h=>by cases h
  ·have h:ADD M o fr' O nx fun v O nx=>putK o.dst v fr' fun fr=>Kn fr O nx:=h;have hm2:Models (shMx M O η w) η fr' [] nx a w:=⟨hm'.heap.read (agree.refl w),hm'.size,hm'.nds,hm'.defers,hm'.ro,hm'.frame⟩;refine(JO (M:=shMx M O η w) hT hm2 (fun x sv hx=>Yi hm'.frame hx) (h.hout η w hm'.heap) fun u v O2 nx2 η' w' hd hp hH hv hk=>?_);obtain⟨hJ,hag2⟩:=hm'.heap.join hH;obtain⟨fr2,h1,h2⟩:=hm'.put hd hp hJ hv hk;exact hR h1 h2 fun _=>hag2
 split at h
 ·rename_i hg;exact go hm (XG hg) h
 ·rename_i j want hg;split at h
  ·exact h.out.elim
  rename_i s hsl;split at h
  ·rename_i b hb;have hbv:=YG (hm.frame s _ hb);have hy:=Ud hsl hbv;cases b with
   |true=>
    have h:=h.t rfl;have hm':Models M η ((s, .bool true)::fr) O nx a w:=hm.know hb rfl rfl hbv;cases want with
    |true=>exact go hm' ((ZB hg).2 hy) h
    |false=>exact skip hm' (fun hw=>by rw[ZB hg,hy]at hw;cases hw) h
   |false=>
    have h:=h.f rfl;have hm':Models M η ((s, .bool false)::fr) O nx a w:=hm.know hb rfl rfl hbv;cases want with
    |false=>exact go hm' ((ZB hg).2 hy) h
    |true=>exact skip hm' (fun hw=>by rw[ZB hg,hy]at hw;cases hw) h
  ·rename_i hb;have hbv:=hm.frame s _ hb;simp only[Den,DenL]at hbv;obtain⟨vs,hbv,rfl⟩:=hbv;exact skip hm (fun hw=>by rw[ZB hg]at hw;exact Vk hsl (by rw[hbv];simp) hw) h
  ·exact h.out.elim
theorem arm(hT:TabOK M.P M.C.T){fk t:Plan}{d:Nat}{fr:Fr}{O:Hps}{nx:Nat}{K:Fr->Hps->Nat->Prop}{η:Env}{a:Act}{w wc:World}{l:Array Bool}(hm:Models M η fr O nx a w)(hag:agree wc w)(hc:Closed .any ops l)
 {x m:Nat} (hmo:Z0B m=true) (hx:x∈Region.ready .any ops l) (hxk:m=0->x∈ZA fk) (hsub:∀k∈ZA t,k∈ZA fk) (hd:t.depth=d)
 (ih:∀{fr:Fr} {O:Hps} {nx:Nat} {η:Env} {a:Act} {w wc:World},runD M ops.toList t fr O nx K->Models M η fr O nx a w->agree wc w->wpH M.fence M.P .any ops Q (SS (ZA t) wc) t.depth (l.setIfInBounds x true) a w)
 (hrun:oneD M ops.toList x m fr O nx fun fr O nx=>runD M ops.toList t fr O nx K):
 wpOpIn M.fence 0 M.P ops Q x (fun a' w'=>SS (ZA fk) wc (l.setIfInBounds x true) w'/\wpH M.fence M.P .any ops Q (SS (ZA fk) wc) d (l.setIfInBounds x true) a' w') a w:=by
 have hin:x<l.size:=by
  obtain⟨h1,o,ho,_⟩:=mem_ready.1 hx;rw[hc.1];exact(Array.getElem?_eq_some_iff.1 ho).1
 have hset:(l.setIfInBounds x true).getD x false=true:=by simp[hin]
 refine ZeS hT (Z5y hmo) hrun hm fun{fr O nx η a w'} hk hm' hag'=>?_;rcases Z5y hmo with h0|h3
 ·have hno:∀l' w',Grows (l.setIfInBounds x true) l'->SS (ZA fk) wc l' w':=by
   intro l' w' hg hk;have h1:=hk x (hxk h0);rw[hg x hset]at h1;cases h1
  refine⟨hno _ _ (fun _ h=>h),?_⟩;have:=ih hk hm' (agree.refl _);rw[hd]at this;exact Wn (l0:=l.setIfInBounds x true) (fun l' w' hg _=>hno l' w' hg) _ _ _ _ (fun _ h=>h) this
 ·have hag2:agree wc w':=hag.trans (hag' h3);refine⟨fun _=>hag2,?_⟩;have:=ih hk hm' hag2;rw[hd]at this;exact Wn (l0:=l.setIfInBounds x true) (fun l' w'' hg hS hk=>hS fun k hkt=>hk k (hsub k hkt)) _ _ _ _ (fun _ h=>h) this
theorem Xm(hT:TabOK M.P M.C.T)(hQ:∀c a w, ¬Q (.panic c) a w)(hs:Region.noSelect ops=true):∀(steps:Plan) {fr:Fr} {O:Hps} {nx:Nat} {K:Fr->Hps->Nat->Prop},runD M ops.toList steps fr O nx K->
 ∀{l:Array Bool},XP ops (Z0V ops.toList []) steps l=true->Closed .any ops l->∀{η:Env} {a:Act} {w:World},Models M η fr O nx a w->(∀η fr O nx a w,Models M η fr O nx a w->K fr O nx->Q .normal a w)->
 ∀{wc:World},agree wc w->wpH M.fence M.P .any ops Q (SS (ZA steps) wc) steps.depth l a w
 | .nil,fr,O,nx,K,h,l,hl,hc,η,a,w,hm,hq,wc,hag=>by
   simp only[XP,List.isEmpty_iff]at hl;exact⟨hl,hq η fr O nx a w hm h⟩
 | .take i m rest,fr,O,nx,K,h,l,hl,hc,η,a,w,hm,hq,wc,hag=>by
   have IH:= @Xm hT hQ hs rest
   replace h:oneD M ops.toList i m fr O nx (fun fr O nx=>runD M ops.toList rest fr O nx K):=h
   unfold oneD at h;split at h
   ·exact h.out.elim
   rename_i o ho;have ho:ops[i]?=some o:=by rw[JZ]at ho;simpa using ho
   simp only[XP,Bool.and_eq_true]at hl;obtain⟨hl1,hl2⟩:=hl
   have hready:i∈Region.ready .any ops l:=by
    revert hl1;split<;>intro hl1
    ·rw[beq_iff_eq.1 hl1];exact List.mem_singleton.2 rfl
    ·simp only[Bool.and_eq_true]at hl1;simpa using hl1.1.1
    ·simp only[Bool.and_eq_true]at hl1;simpa using hl1.1.1
    ·rw[beq_iff_eq.1 hl1];exact List.mem_singleton.2 rfl
   have hc':=hc.set hready;have hin:i<l.size:=by rw[hc.1];exact(Array.getElem?_eq_some_iff.1 ho).1
   have hset:(l.setIfInBounds i true).getD i false=true:=by simp[hin]
   have modes:∀{p:Prop},(m=0->p)->(m=1->p)->(m=2->p)->(3<=m->p)->p:=by
    intro p h0 h1 h2 h3
    match m,h0,h1,h2,h3 with
    |0,h0,_,_,_=>exact h0 rfl
    |1,_,h1,_,_=>exact h1 rfl
    |2,_,_,h2,_=>exact h2 rfl
    |m+3,_,_,_,h3=>exact h3 (by omega)
   have alone:Region.ready .any ops l=[i]->∀{a:Act} {w:World},agree wc w->wpOpIn M.fence 0 M.P ops Q i (fun a' w'=>SS (ZA (.take i m rest)) wc (l.setIfInBounds i true) w'/\wpH M.fence M.P .any ops Q (SS (ZA (.take i m rest)) wc) rest.depth (l.setIfInBounds i true) a' w') a w->
    wpH M.fence M.P .any ops Q (SS (ZA (.take i m rest)) wc) (Plan.take i m rest).depth l a w:=fun hr a w hag h=>ZeR hr h
   have afterKill:m=0->∀{fr:Fr} {O:Hps} {nx:Nat} {η:Env} {a:Act} {w:World},runD M ops.toList rest fr O nx K->Models M η fr O nx a w->
    SS (ZA (.take i m rest)) wc (l.setIfInBounds i true) w/\wpH M.fence M.P .any ops Q (SS (ZA (.take i m rest)) wc) rest.depth (l.setIfInBounds i true) a w:=by
    intro h0 fr O nx η a w hrun hm;subst h0;rw[Z5x]
    have hno:∀l' w',Grows (l.setIfInBounds i true) l'->SS (i::ZA rest) wc l' w':=by
     intro l' w' hg hk;have h1:=hk i (List.mem_cons_self ..);rw[hg i hset]at h1;cases h1
    exact⟨hno _ _ (fun _ h=>h),Wn (l0:=l.setIfInBounds i true) (fun l' w' hg _=>hno l' w' hg) _ _ _ _ (fun _ h=>h) (IH hrun hl2 hc' hm hq (agree.refl w))⟩
   have afterElse:m≠0->∀{fr:Fr} {O:Hps} {nx:Nat} {η:Env} {a:Act} {w:World},runD M ops.toList rest fr O nx K->Models M η fr O nx a w->agree wc w->
    SS (ZA (.take i m rest)) wc (l.setIfInBounds i true) w/\wpH M.fence M.P .any ops Q (SS (ZA (.take i m rest)) wc) rest.depth (l.setIfInBounds i true) a w:=by
    intro h0 fr O nx η a w hrun hm hag;rw[Xw h0];exact⟨fun _=>hag,IH hrun hl2 hc' hm hq hag⟩
   have quiet1:m=1->Region.free .any ops l i=true/\∀k∈ZA rest,k≠i:=by
    intro h1;subst h1;simp only[Bool.and_eq_true,List.all_eq_true,bne_iff_ne]at hl1;exact⟨hl1.1.2,hl1.2⟩
   have quiet2:m=2->Region.free .any ops l i=true/\∀k∈ZA rest,k≠i/\((Z0V ops.toList []).getD k 0).testBit i=true:=by
    intro h1;subst h1;simp only[Bool.and_eq_true,List.all_eq_true,bne_iff_ne]at hl1;exact⟨hl1.1.2,hl1.2⟩
   have alone0:m=0->Region.ready .any ops l=[i]:=by intro h1;subst h1;exact beq_iff_eq.1 hl1
   have alone3:3<=m->Region.ready .any ops l=[i]:=by
    intro h1
    match m,h1,hl1 with
    |m+3,_,hl1=>exact beq_iff_eq.1 hl1
   have skip:∀{fr':Fr},Models M η fr' O nx a w->Region.wanted o (yielded ops a.tmps)≠true->(match Jr M.C.N o.dst with|true=>putK o.dst YH fr' fun fr=>runD M ops.toList rest fr O nx K|false=>STOP "slot")->
    wpH M.fence M.P .any ops Q (SS (ZA (.take i m rest)) wc) (Plan.take i m rest).depth l a w:=by
    intro fr' hm' hw h;split at h
    case h_2=>exact h.out.elim
    rename_i hd;obtain⟨fr2,h1,h2⟩:=Ug hm' hd (Jv η) h;have hwf:Region.wanted o (yielded ops a.tmps)=false:=by simpa using hw
    have op:∀{K':Act->World->Prop},K' (a.put o.dst undef) w->wpOpIn M.fence 0 M.P ops Q i K' a w:=by
     intro K' hk;unfold wpOpIn;simp only[ho];rw[if_neg hw];exact⟨fun f _=>M.all f,hk⟩
    refine modes (fun h0=>alone (alone0 h0) hag (op (afterKill h0 h1 h2))) (fun h0=>?_) (fun h0=>?_) (fun h0=>alone (alone3 h0) hag (op (afterElse (by omega) h1 h2 hag)))
    ·have hn:m≠0:=by omega
     have:=(afterElse hn h1 h2 hag).2;rw[Xw hn]at this⊢;exact Vr hQ hs ho hready (quiet1 h0).1 (quiet1 h0).2 hc (N:=fun _=>True) (fun _ _ _ _ _=>trivial) (.inr ⟨hwf,rfl⟩) hag this
    ·have hn:m≠0:=by omega
     have:=(afterElse hn h1 h2 hag).2;rw[Xw hn]at this⊢;exact Vr hQ hs ho hready (quiet2 h0).1 (fun k hk=>((quiet2 h0).2 k hk).1) hc (N:=fun _=>True) (fun _ _ _ _ _=>trivial) (.inr ⟨hwf,rfl⟩) hag this
   have go:∀{fr':Fr},Models M η fr' O nx a w->Region.wanted o (yielded ops a.tmps)=true->(Zao M m o fr' O nx fun v O nx=>putK o.dst v fr' fun fr=>runD M ops.toList rest fr O nx K)->
    wpH M.fence M.P .any ops Q (SS (ZA (.take i m rest)) wc) (Plan.take i m rest).depth l a w:=by
    intro fr' hm' hw h
    have op:∀{K':Act->World->Prop},o.wpIn M.fence 0 M.P a w K' Q->wpOpIn M.fence 0 M.P ops Q i K' a w:=by
     intro K' hk;unfold wpOpIn;simp only[ho];rw[if_pos hw];exact hk
    refine modes (fun h0=>?_) (fun h0=>?_) (fun h0=>?_) (fun h0=>?_)
    ·have h:Z1u M o (Jq fr') O nx fun v O nx=>putK o.dst v fr' fun fr=>runD M ops.toList rest fr O nx K:=by subst h0;exact h
     refine alone (alone0 h0) hag (op (JO hT hm' (fun x sv hx=>Yi hm'.frame hx) h fun u v O' nx' η' w' hd hp hH hv hk=>?_));obtain⟨fr2,h1,h2⟩:=hm'.put hd hp hH hv hk;exact afterKill h0 h1 h2
    ·have h:Z8P M.C.N (Z28 M.C) o fr' nx fun v=>putK o.dst v fr' fun fr=>runD M ops.toList rest fr O nx K:=by subst h0;exact h
     obtain⟨hd,u,v,hy,hv,hk⟩:=Z0C (P:=M.P) (C':=Z28 M.C) ⟨hT.und,hT.info,hT.zero,hT.zsh,hT.flat,hT.key⟩ (N:=fun _=>True) (w:=w) hm'.frame (fun w' _=>HeapOK.blind (M:=M) hm'.heap.len w') trivial h;obtain⟨fr2,h1,h2⟩:=Ug hm' hd hv hk;have hn:m≠0:=by omega
     have:=(afterElse hn h1 h2 hag).2;rw[Xw hn]at this⊢;exact Vr hQ hs ho hready (quiet1 h0).1 (quiet1 h0).2 hc (N:=fun _=>True) (fun _ _ _ _ _=>trivial) (.inl ⟨hw,fun w' h=>hy w' h⟩) hag this
    ·have h:Z8P M.C.N (Z5v M.C O) o fr' nx fun v=>putK o.dst v fr' fun fr=>runD M ops.toList rest fr O nx K:=by subst h0;exact h
     obtain⟨hd,u,v,hy,hv,hk⟩:=Z0C (P:=M.P) (C':=Z5v M.C O) hT (N:=agree w) hm'.frame (fun w' h=>hm'.heap.read h) (agree.refl w) h;obtain⟨fr2,h1,h2⟩:=Ug hm' hd hv hk;have hn:m≠0:=by omega
     have:=IH h1 hl2 hc' h2 hq (agree.refl w);rw[Xw hn];refine Wn (S':=SS (ZA rest) w) (l0:=l) (fun l' w' _ hS hk=>hag.trans (hS hk)) _ _ _ _ (fun _ h=>h) ?_;refine Vr hQ hs ho hready (quiet2 h0).1 (fun k hk=>((quiet2 h0).2 k hk).1) hc (N:=agree w) (fun l' w' hcl hun hS=>hS fun k hk=>?_) (.inl ⟨hw,fun w' h=>hy w' h⟩) (agree.refl w) this;cases hlk:l'.getD k false with
     |false=>rfl
     |true=>
      have:=Z5w hcl k ((quiet2 h0).2 k hk).2 hlk;rw[Wp hun]at this;cases this
    ·have h:ADD M o fr' O nx fun v O nx=>putK o.dst v fr' fun fr=>runD M ops.toList rest fr O nx K:=by
      match m,h0,h with
      |m+3,_,h=>exact h
     have hm2:Models (shMx M O η w) η fr' [] nx a w:=⟨hm'.heap.read (agree.refl w),hm'.size,hm'.nds,hm'.defers,hm'.ro,hm'.frame⟩;refine alone (alone3 h0) hag (op (JO (M:=shMx M O η w) hT hm2 (fun x sv hx=>Yi hm'.frame hx) (h.hout η w hm'.heap) fun u v O2 nx2 η' w' hd hp hH hv hk=>?_));obtain⟨hJ,hag2⟩:=hm'.heap.join hH;obtain⟨fr2,h1,h2⟩:=hm'.put hd hp hJ hv hk;exact afterElse (by omega) h1 h2 (hag.trans hag2)
   split at h
   ·rename_i hg;exact go hm (XG hg) h
   ·rename_i j want hg;split at h
    ·exact h.out.elim
    rename_i s hsl;split at h
    ·rename_i b hb;have hbv:=YG (hm.frame s _ hb);have hy:=Ud hsl hbv;cases b with
     |true=>
      have h:=h.t rfl;have hm':Models M η ((s, .bool true)::fr) O nx a w:=hm.know hb rfl rfl hbv;cases want with
      |true=>exact go hm' ((ZB hg).2 hy) h
      |false=>exact skip hm' (fun hw=>by rw[ZB hg,hy]at hw;cases hw) h
     |false=>
      have h:=h.f rfl;have hm':Models M η ((s, .bool false)::fr) O nx a w:=hm.know hb rfl rfl hbv;cases want with
      |false=>exact go hm' ((ZB hg).2 hy) h
      |true=>exact skip hm' (fun hw=>by rw[ZB hg,hy]at hw;cases hw) h
    ·rename_i hb;have hbv:=hm.frame s _ hb;simp only[Den,DenL]at hbv;obtain⟨vs,hbv,rfl⟩:=hbv;exact skip hm (fun hw=>by rw[ZB hg]at hw;exact Vk hsl (by rw[hbv];simp) hw) h
    ·exact h.out.elim
 | .fork i mi j mj p q,fr,O,nx,K,h,l,hl,hc,η,a,w,hm,hq,wc,hag=>by
   simp only[XP,Bool.and_eq_true,beq_iff_eq]at hl;obtain⟨⟨⟨⟨⟨hr,hmi⟩,hmj⟩,hdep⟩,hlp⟩,hlq⟩:=hl
   replace h:FORK (oneD M ops.toList i mi fr O nx fun fr O nx=>runD M ops.toList p fr O nx K) (oneD M ops.toList j mj fr O nx fun fr O nx=>runD M ops.toList q fr O nx K):=h
   have hi:i∈Region.ready .any ops l:=by rw[hr];simp
   have hj:j∈Region.ready .any ops l:=by rw[hr];simp
   refine⟨fun h0=>(by rw[hr]at h0;cases h0),fun x hx=>?_⟩;rw[hr]at hx;rcases List.mem_cons.1 hx with rfl|hx
   ·exact arm hT hm hag hc hmi hi (fun h0=>by subst h0;exact Jy) (fun k hk=>ZM (ZM (List.mem_append_left _ hk))) rfl (fun hk hm' hag=>Xm hT hQ hs p hk hlp (hc.set hi) hm' hq hag) h.a
   ·have hx:=List.mem_singleton.1 hx;subst hx;exact arm hT hm hag hc hmj hj (fun h0=>by subst h0;exact ZM Jy) (fun k hk=>ZM (ZM (List.mem_append_right _ hk))) hdep.symm (fun hk hm' hag=>Xm hT hQ hs q hk hlq (hc.set hj) hm' hq hag) h.b
 | .fork3 i mi j mj k mk p q r,fr,O,nx,K,h,l,hl,hc,η,a,w,hm,hq,wc,hag=>by
   simp only[XP,Bool.and_eq_true,beq_iff_eq]at hl;obtain⟨⟨⟨⟨⟨⟨⟨⟨hr,hmi⟩,hmj⟩,hmk⟩,hdep⟩,hdep2⟩,hlp⟩,hlq⟩,hlr⟩:=hl
   replace h:FORK (oneD M ops.toList i mi fr O nx fun fr O nx=>runD M ops.toList p fr O nx K) (FORK (oneD M ops.toList j mj fr O nx fun fr O nx=>runD M ops.toList q fr O nx K) (oneD M ops.toList k mk fr O nx fun fr O nx=>runD M ops.toList r fr O nx K)):=h
   have hi:i∈Region.ready .any ops l:=by rw[hr];simp
   have hj:j∈Region.ready .any ops l:=by rw[hr];simp
   have hk':k∈Region.ready .any ops l:=by rw[hr];simp
   refine⟨fun h0=>(by rw[hr]at h0;cases h0),fun x hx=>?_⟩;rw[hr]at hx;rcases List.mem_cons.1 hx with rfl|hx
   ·exact arm hT hm hag hc hmi hi (fun h0=>by subst h0;exact Jy) (fun k hk=>ZM (ZM (ZM (List.mem_append_left _ hk)))) rfl (fun hk hm' hag=>Xm hT hQ hs p hk hlp (hc.set hi) hm' hq hag) h.a
   ·rcases List.mem_cons.1 hx with rfl|hx
    ·exact arm hT hm hag hc hmj hj (fun h0=>by subst h0;exact ZM Jy) (fun k hk=>ZM (ZM (ZM (List.mem_append_right _ (List.mem_append_left _ hk))))) hdep.symm (fun hk hm' hag=>Xm hT hQ hs q hk hlq (hc.set hj) hm' hq hag) h.b.a
    ·have hx:=List.mem_singleton.1 hx;subst hx;exact arm hT hm hag hc hmk hk' (fun h0=>by subst h0;exact ZM (ZM Jy)) (fun k hk=>ZM (ZM (ZM (List.mem_append_right _ (List.mem_append_right _ hk))))) hdep2.symm (fun hk hm' hag=>Xm hT hQ hs r hk hlr (hc.set hk') hm' hq hag) h.b.b
 | .join p,fr,O,nx,K,h,l,hl,hc,η,a,w,hm,hq,wc,hag=>by
   replace h:JOIN (fun fr=>runD M ops.toList p fr O nx K) fr:=h
   obtain⟨fr',he,h⟩:=h.out;have hm':Models M η fr' O nx a w:=⟨hm.heap,hm.size,hm.nds,(by rw[he];exact hm.defers),hm.ro,fun t sv ht=>hm.frame t sv (by rw[<-he];exact ht)⟩;exact Xm hT hQ hs p h hl hc hm' hq hag
theorem DRAWN.of{M:Mx}(hT:TabOK M.P M.C.T)(hP:M.P.follows .mixedOrders=true){id:Nat}{ops:Array Oper}{fr:Fr}{O:Hps}{nx:Nat}{Q:Post}(steps:Plan)(hord:Zap ops steps=true)
 (h:runD M ops.toList steps fr O nx fun fr O nx=>Q .normal fr O nx):DRAWN M id ops fr O nx Q:=by
 simp only[Zap,Bool.and_eq_true,beq_iff_eq]at hord;obtain⟨⟨hs,hlen⟩,hord⟩:=hord;refine⟨fun η a w hm=>Code.wpIn_mono (Q:=fun e a w=>(∀ch,e≠ .panic ch)/\Z8E M Q e a w) (fun e a w h=>h.2) (wpIn_region_any hP (Z0A (S:=SS (ZA steps) {w with drawn:=w.drawn+1}) _ _ _ _ ?_))⟩;have hm':Models M η fr O nx a {w with drawn:=w.drawn+1}:=⟨hm.heap.drawn (Nat.le_succ _),hm.size,hm.nds,hm.defers,hm.ro,hm.frame⟩
 have hc0:Closed .any ops (Array.replicate ops.size false):=by
  refine⟨by simp,fun j o hj hl=>?_⟩;rcases Nat.lt_or_ge j ops.size with h'|h'
  ·simp[h']at hl
  ·simp[h']at hl
 have key:=Xm (Q:=fun e a w=>(∀ch,e≠ .panic ch)/\Z8E M Q e a w) hT (fun c a w hq=>hq.1 c rfl) hs steps h hord hc0 hm' (fun η fr O nx a w hm hq=>⟨(fun ch he=>by cases he),η,fr,O,nx,hm,hq⟩) (agree.refl _);rw[hlen]at key;exact key
end
section
variable {σ:Nat->Nat}{k:Nat}
theorem Ui(h:∀j,j<k->σ j=j):∀{b:Blk},Wj k b=true->renB σ b=b
 | .glob g,_=>rfl
 | .loc i,hb=>by simp only[Wj,Nat.blt_eq]at hb;simp only[renB,h i hb]
mutual
theorem Vc(h:∀j,j<k->σ j=j):∀{v:SV},ZS k v=true->ren σ v=v
 | .bool _,_=>rfl
 | .int _ _,_=>rfl
 | .str _,_=>rfl
 | .val _,_=>rfl
 | .any,_=>rfl
 | .nb _,_=>rfl
 | .dfs l,hb=>by simp only[ZS]at hb;simp only[ren,YZ h hb]
 | .yf b,hb=>by simp only[ZS]at hb;simp only[ren,Ui h hb]
 | .mp b,hb=>by simp only[ZS]at hb;simp only[ren,Ui h hb]
 | .ptr b _ _ _,hb=>by simp only[ZS]at hb;simp only[ren,Ui h hb]
 | .sl b _ _ _ _,hb=>by simp only[ZS]at hb;simp only[ren,Ui h hb]
 | .agg cs,hb=>by simp only[ZS]at hb;simp only[ren,YZ h hb]
 | .arr _ rs,hb=>by simp only[ZS]at hb;simp only[ren,Jz h hb]
 | .tup vs,hb=>by simp only[ZS]at hb;simp only[ren,YZ h hb]
 | .ifc _ v,hb=>by simp only[ZS]at hb;simp only[ren,Vc h hb]
 | .fn _ a b,hb=>by simp only[ZS,Bool.and_eq_true]at hb;simp only[ren,YZ h hb.1,YZ h hb.2]
theorem YZ(h:∀j,j<k->σ j=j):∀{vs:List SV},ZT k vs=true->renL σ vs=vs
 | [],_=>rfl
 |c::cs,hb=>by simp only[ZT,Bool.and_eq_true]at hb;simp only[renL,Vc h hb.1,YZ h hb.2]
theorem Jz(h:∀j,j<k->σ j=j):∀{vs:List (List SV)},Yu k vs=true->Xp σ vs=vs
 | [],_=>rfl
 |c::cs,hb=>by simp only[Yu,Bool.and_eq_true]at hb;simp only[Xp,YZ h hb.1,Jz h hb.2]
end
theorem Z3u(h:∀j,j<k->σ j=j):∀{fr:Fr},UF k fr=true->renF σ fr=fr
 | [],_=>rfl
 |(t,v)::r,hb=>by
  simp only[UF,Bool.and_eq_true]at hb;simp only[renF,Vc h hb.1,Z3u h hb.2]
theorem Z8V(h:∀j,j<k->σ j=j):∀{c:DC},Wk k c=true->renC σ c=c
 | .v s,hb=>by simp only[Wk]at hb;simp only[renC,Vc h hb]
 | .kid _ rs,hb=>by simp only[Wk]at hb;simp only[renC,Jz h hb]
theorem Z2f(h:∀j,j<k->σ j=j):∀{r:List DC},Xe k r=true->Wi σ r=r
 | [],_=>rfl
 |c::cs,hb=>by simp only[Xe,Bool.and_eq_true]at hb;simp only[Wi,Z8V h hb.1,Z2f h hb.2]
theorem Z0D(h:∀j,j<k->σ j=j):∀{r:List (List DC)},Yl k r=true->Xl σ r=r
 | [],_=>rfl
 |c::cs,hb=>by simp only[Yl,Bool.and_eq_true]at hb;simp only[Xl,Z2f h hb.1,Z0D h hb.2]
theorem Uj(h:∀j,j<k->σ j=j):∀{hp:Hp},Zs k hp=true->renH σ hp=hp
 | .deep _ _ _,hb=>by simp only[Zs]at hb;simp only[renH,Z0D h hb]
 | .box _,hb=>by simp only[Zs]at hb;simp only[renH,YZ h hb]
 | .rows _ _,hb=>by simp only[Zs]at hb;simp only[renH,Jz h hb]
 | .siter _ _,_=>rfl
 | .tbl _,_=>rfl
 | .bld _ _ _,_=>rfl
 | .dfr _,_=>rfl
 | .lp _ _ fr,hb=>by simp only[Zs]at hb;simp only[renH,Z3u h hb]
 | .mp _,hb=>by simp only[Zs]at hb;simp only[renH,Jz h hb]
theorem Z3v(h:∀j,j<k->σ j=j):∀{O:Hps},Zv k O=true->renO σ O=O
 | [],_=>rfl
 |(i,hp)::r,hb=>by
  simp only[Zv,Bool.and_eq_true,Nat.blt_eq]at hb;simp only[renO,h i hb.1,Uj h hb.2.1,Z3v h hb.2.2]
end
variable {M:Mx}{fr fr':Fr}{O O':Hps}{nx:Nat}
theorem ZaB{k i:Nat}(h:i<k):(List.range k).getD i 0=i:=by simp[List.getD,h]
theorem Z6S{k nx j:Nat}(h:j<k):Zk (List.range k) nx j=j:=by
 simp only[Zk,List.length_range,if_pos h,ZaB h]
def hereO(O:Hps):Hps->Prop
 | []=>True
 |(i,h)::r=>match lkp i O with
  |some g=>g=h/\hereO O r
  |none=>False
def hereS(C:Cx)(O:Hps):Hps->Prop
 | []=>True
 |(i,h)::r=>match XE C O (.loc i)with
  |some g=>g=h/\hereS C O r
  |none=>False
theorem hereO.at{O:Hps}:∀{Oc:Hps},hereO O Oc->∀p∈Oc,lkp p.1 O=some p.2
 | [],_,p,hp=>by cases hp
 |(i,h)::r,hs,p,hp=>by
  simp only[hereO]at hs;split at hs
  ·rename_i g hg;obtain⟨rfl,hs⟩:=hs;rcases List.mem_cons.1 hp with rfl|hp
   ·exact hg
   ·exact hereO.at hs p hp
  ·exact hs.elim
theorem hereS.at{C:Cx}{O:Hps}:∀{Sc:Hps},hereS C O Sc->∀p∈Sc,XE C O (.loc p.1)=some p.2
 | [],_,p,hp=>by cases hp
 |(i,h)::r,hs,p,hp=>by
  simp only[hereS]at hs;split at hs
  ·rename_i g hg;obtain⟨rfl,hs⟩:=hs;rcases List.mem_cons.1 hp with rfl|hp
   ·exact hg
   ·exact hereS.at hs p hp
  ·exact hs.elim
theorem X0{k:Nat}:∀{O:Hps},Zv k O=true->∀p∈O,p.1<k/\Zs k p.2=true
 | [],_,p,hp=>by cases hp
 |(i,h)::r,hb,p,hp=>by
  simp only[Zv,Bool.and_eq_true,Nat.blt_eq]at hb;rcases List.mem_cons.1 hp with rfl|hp
  ·exact⟨hb.1,hb.2.1⟩
  ·exact X0 hb.2.2 p hp
theorem X1{k:Nat}:∀{O:Hps},Zv k O=true->∀j∈Zd O,j<k
 | [],_,j,hj=>by cases hj
 |(i,h)::r,hb,j,hj=>by
  simp only[Zv,Bool.and_eq_true,Nat.blt_eq]at hb;rcases List.mem_cons.1 hj with rfl|hj
  ·exact hb.1
  ·exact X1 hb.2.2 j hj
theorem Z81{f:Nat->Nat}:∀{l:List Nat},(∀j∈l,f j=j)->l.map f=l
 | [],_=>rfl
 |x::l,h=>by simp only[List.map_cons,h x (List.mem_cons_self ..),Z81 fun j hj=>h j (List.mem_cons_of_mem _ hj)]
theorem Ws:∀{S:Hps} {p:Nat×Hp},p∈S->p.1∈Zd S
 | [],p,hp=>by cases hp
 |(i,h)::S,p,hp=>by
  rcases List.mem_cons.1 hp with rfl|hp
  ·exact List.mem_cons_self ..
  ·exact List.mem_cons_of_mem _ (Ws hp)
theorem CALL.here{f:FuncId}{args:List SV}{K:SV->Hps->Nat->Prop}{k:Nat}{Oc Sc:Hps}{Q:SV->Hps->Nat->Prop}(sp:Does M.P M.C.T f k args Oc Sc Q)
 (hk:Nat.ble k nx=true) (hb:ZT k args=true) (hbO:Zv k Oc=true) (hbS:Zv k Sc=true) (hO:hereO O Oc) (hS:hereS M.C O Sc)
 (hd:(Zd Sc).all (fun j=>!((Zd Oc).any (Nat.beq j)))=true)
 (hQ:∀r O' nx',Q r O' nx'->nx'=k/\ZS k r=true/\Zv k O'=true)
 (hK:∀r O',Q r O' k->K r (O'++Y7 (Zd Oc) O) nx):CALL M f args O nx K:=by
 have hk:=Nat.le_of_ble_eq_true hk;have hσ:∀j,j<k->Zk (List.range k) nx j=j:=fun j hj=>Z6S hj;have hnames:(Zd Oc).map (Zk (List.range k) nx)=Zd Oc:=Z81 fun j hj=>hσ j (X1 hbO j hj);refine CALL.of (List.range k) sp (by simp) (fun i hi=>by have:=List.mem_range.1 hi;omega) (YZ hσ hb).symm hb ?_ ?_ ?_ ?_
 ·intro p hp;obtain⟨h1,h2⟩:=X0 hbO p hp;exact⟨h1,by rw[hσ _ h1,Uj hσ h2];exact hO.at p hp,h2⟩
 ·intro j hj j' hj' he;rwa [hσ j (X1 hbO j hj),hσ j' (X1 hbO j' hj')]at he
 ·intro p hp;obtain⟨h1,h2⟩:=X0 hbS p hp;refine⟨h1,by rw[hσ _ h1,Uj hσ h2];exact hS.at p hp,h2,?_⟩;rw[hnames,hσ _ h1];intro hm;have hj:p.1∈Zd Sc:=Ws hp;have:=List.all_eq_true.1 hd _ hj;simp only[Bool.not_eq_eq_eq_not,Bool.not_true]at this;have h3:(Zd Oc).any (Nat.beq p.1)=true:=List.any_eq_true.2 ⟨p.1,hm,YV _⟩;rw[h3]at this;cases this
 ·intro r O' nx' hq;obtain⟨rfl,h1,h2⟩:=hQ r O' nx' hq;have:=hK r O' hq;rw[Vc hσ h1,Z3v hσ h2,hnames];simpa using this
def thereO(σ:Nat->Nat)(O:Hps):Hps->Prop
 | []=>True
 |(i,h)::r=>match lkp (σ i) O with
  |some g=>g=renH σ h/\thereO σ O r
  |none=>False
def thereS(C:Cx)(σ:Nat->Nat)(O:Hps):Hps->Prop
 | []=>True
 |(i,h)::r=>match XE C O (.loc (σ i))with
  |some g=>g=renH σ h/\thereS C σ O r
  |none=>False
theorem thereO.at{σ:Nat->Nat}{O:Hps}:∀{Oc:Hps},thereO σ O Oc->∀p∈Oc,lkp (σ p.1) O=some (renH σ p.2)
 | [],_,p,hp=>by cases hp
 |(i,h)::r,hs,p,hp=>by
  simp only[thereO]at hs;split at hs
  ·rename_i g hg;obtain⟨rfl,hs⟩:=hs;rcases List.mem_cons.1 hp with rfl|hp
   ·exact hg
   ·exact thereO.at hs p hp
  ·exact hs.elim
theorem thereS.at{C:Cx}{σ:Nat->Nat}{O:Hps}:∀{Sc:Hps},thereS C σ O Sc->∀p∈Sc,XE C O (.loc (σ p.1))=some (renH σ p.2)
 | [],_,p,hp=>by cases hp
 |(i,h)::r,hs,p,hp=>by
  simp only[thereS]at hs;split at hs
  ·rename_i g hg;obtain⟨rfl,hs⟩:=hs;rcases List.mem_cons.1 hp with rfl|hp
   ·exact hg
   ·exact thereS.at hs p hp
  ·exact hs.elim
theorem CALL.at{f:FuncId}{args argsc:List SV}{K:SV->Hps->Nat->Prop}{k:Nat}{Oc Sc:Hps}{Q:SV->Hps->Nat->Prop}(L:List Nat)(sp:Does M.P M.C.T f k argsc Oc Sc Q)
 (hL:L.length=k) (hLn:L.all (fun i=>Nat.blt i nx)=true) (ha:args=renL (Zk L nx) argsc) (hb:ZT k argsc=true) (hbO:Zv k Oc=true) (hbS:Zv k Sc=true) (hO:thereO (Zk L nx) O Oc) (hS:thereS M.C (Zk L nx) O Sc)
 (hinj:(Zd Oc).all (fun j=>(Zd Oc).all fun j'=>!(Nat.beq (Zk L nx j) (Zk L nx j'))||Nat.beq j j')=true)
 (hd:(Zd Sc).all (fun j=>!((Zd Oc).any fun j'=>Nat.beq (Zk L nx j) (Zk L nx j')))=true)
 (hK:∀r O' nx',Q r O' nx'->K (ren (Zk L nx) r) (renO (Zk L nx) O'++Y7 ((Zd Oc).map (Zk L nx)) O) (nx+(nx'-k))):CALL M f args O nx K:=by
 refine CALL.of L sp hL (fun i hi=>by have:=List.all_eq_true.1 hLn i hi;simpa[Nat.blt_eq]using this) ha hb (fun p hp=>?_) (fun j hj j' hj' he=>?_) (fun p hp=>?_) hK
 ·obtain⟨h1,h2⟩:=X0 hbO p hp;exact⟨h1,hO.at p hp,h2⟩
 ·have:=List.all_eq_true.1 (List.all_eq_true.1 hinj j hj) j' hj';simp only[he,YV,Bool.not_true,Bool.false_or]at this;exact Zq this
 ·obtain⟨h1,h2⟩:=X0 hbS p hp;refine⟨h1,hS.at p hp,h2,fun hm=>?_⟩;obtain⟨j',hj',he⟩:=List.mem_map.1 hm;have:=List.all_eq_true.1 hd _ (Ws hp);simp only[Bool.not_eq_eq_eq_not,Bool.not_true]at this;have h3:(Zd Oc).any (fun j'=>Nat.beq (Zk L nx p.1) (Zk L nx j'))=true:=List.any_eq_true.2 ⟨j',hj',by rw[he];exact YV _⟩;rw[h3]at this;cases this
theorem CALLE.at{f:FuncId}{args argsc:List SV}{KP K:SV->Hps->Nat->Prop}{k:Nat}{Oc Sc:Hps}{Q X:SV->Hps->Nat->Prop}(L:List Nat)(sp:DoesE M.P M.C.T f k argsc Oc Sc Q X)
 (hL:L.length=k) (hLn:L.all (fun i=>Nat.blt i nx)=true) (ha:args=renL (Zk L nx) argsc) (hb:ZT k argsc=true) (hbO:Zv k Oc=true) (hbS:Zv k Sc=true) (hO:thereO (Zk L nx) O Oc) (hS:thereS M.C (Zk L nx) O Sc)
 (hinj:(Zd Oc).all (fun j=>(Zd Oc).all fun j'=>!(Nat.beq (Zk L nx j) (Zk L nx j'))||Nat.beq j j')=true)
 (hd:(Zd Sc).all (fun j=>!((Zd Oc).any fun j'=>Nat.beq (Zk L nx j) (Zk L nx j')))=true)
 (hK:∀r O' nx',Q r O' nx'->K (ren (Zk L nx) r) (renO (Zk L nx) O'++Y7 ((Zd Oc).map (Zk L nx)) O) (nx+(nx'-k)))
 (hX:∀r O' nx',X r O' nx'->KP (ren (Zk L nx) r) (renO (Zk L nx) O'++Y7 ((Zd Oc).map (Zk L nx)) O) (nx+(nx'-k))):CALLE M f args O nx KP K:=by
 refine CALLE.of L sp hL (fun i hi=>by have:=List.all_eq_true.1 hLn i hi;simpa[Nat.blt_eq]using this) ha hb (fun p hp=>?_) (fun j hj j' hj' he=>?_) (fun p hp=>?_) hK hX
 ·obtain⟨h1,h2⟩:=X0 hbO p hp;exact⟨h1,hO.at p hp,h2⟩
 ·have:=List.all_eq_true.1 (List.all_eq_true.1 hinj j hj) j' hj';simp only[he,YV,Bool.not_true,Bool.false_or]at this;exact Zq this
 ·obtain⟨h1,h2⟩:=X0 hbS p hp;refine⟨h1,hS.at p hp,h2,fun hm=>?_⟩;obtain⟨j',hj',he⟩:=List.mem_map.1 hm;have:=List.all_eq_true.1 hd _ (Ws hp);simp only[Bool.not_eq_eq_eq_not,Bool.not_true]at this;have h3:(Zd Oc).any (fun j'=>Nat.beq (Zk L nx p.1) (Zk L nx j'))=true:=List.any_eq_true.2 ⟨j',hj',by rw[he];exact YV _⟩;rw[h3]at this;cases this
theorem FIN.at{k:Nat}{r:SV}{Q:SV->Hps->Nat->Prop}(hk:M.η0.length=k)(τ:List Nat)(rc:SV)(Oc:Hps)(hτ:τ.all (fun i=>Nat.blt i nx)=true)(hr:r=ren (Yx k τ) rc)(hb:ZS (k+τ.length) rc=true)(hbO:Zv (k+τ.length) Oc=true)
 (hO:thereO (Yx k τ) O Oc) (hinj:(Zd Oc).all (fun j=>(Zd Oc).all fun j'=>!(Nat.beq (Yx k τ j) (Yx k τ j'))||Nat.beq j j')=true) (hQ:Q rc Oc (k+τ.length)):FIN M O nx r Q:=by
 refine FIN.keep hk τ (rc:=rc) (Oc:=Oc) (fun i hi=>by have:=List.all_eq_true.1 hτ i hi;simpa[Nat.blt_eq]using this) hr hb (fun p hp=>?_) (fun j hj j' hj' he=>?_) hQ
 ·obtain⟨h1,h2⟩:=X0 hbO p hp;exact⟨h1,hO.at p hp,h2⟩
 ·have:=List.all_eq_true.1 (List.all_eq_true.1 hinj j hj) j' hj';simp only[he,YV,Bool.not_true,Bool.false_or]at this;exact Zq this
theorem CALL.weak{f:FuncId}{args:List SV}{K:SV->Hps->Nat->Prop}{O1:Hps}{n1:Nat}(h:∀η w,HeapOK M η w O nx->∃η',η<+:η'/\HeapOK M η' w O1 n1)(hc:CALL M f args O1 n1 K):CALL M f args O nx K:=by
 refine⟨fun η w vs H hd=>?_⟩;obtain⟨η1,hp,H1⟩:=h η w H;refine(hc.out η1 w vs H1 (DenL.mono hp hd)).mono ?_;rintro v w' ⟨r,O',nx',η',h1,h2⟩;exact⟨r,O',nx',η',hp.trans h1,h2⟩
def Z2g(nx es:Nat):Nat->List SV->Option (List SV)
 |0, .val (.slice none 0 0)::r=>some (.sl (.loc nx) 0 es 0 none::r)
 |j+1,c::r=>match Z2g nx es j r with|some r=>some (c::r)|none=>none
 |_,_=>none
theorem Z5D{nx es:Nat}:∀{j:Nat} {row row':List SV},Z2g nx es j row=some row'->∀(i:Nat) (sv:SV),row'[i]?=some sv->row[i]?=some sv\/(row[i]?=some (SV.val (.slice none 0 0))/\sv=SV.sl (.loc nx) 0 es 0 none)
 |0,[],_,h=>by simp[Z2g]at h
 |0,c::r,row',h=>by
  unfold Z2g at h;split at h
  ·rename_i e1 e2;injection e2 with e2 e3;subst e2 e3;injection h with h;subst h;intro i sv hi;cases i with
   |zero=>simp at hi;subst hi;exact .inr ⟨rfl,rfl⟩
   |succ i=>exact .inl (by simpa using hi)
  ·simp_all
  ·cases h
 |j+1,[],_,h=>by simp[Z2g]at h
 |j+1,c::r,row',h=>by
  unfold Z2g at h;split at h
  ·rename_i r1 hr;injection h with h;subst h;intro i sv hi;cases i with
   |zero=>left;simpa using hi
   |succ i=>
    have:=Z5D hr i sv (by simpa using hi);simpa using this
  ·cases h
theorem HeapOK.nilCell{η:Env}{w:World}(H:HeapOK M η w O nx){i j es:Nat}{row row':List SV}(hi:lkp i O=some (.box row))(hr:Z2g nx es j row=some row'):
 ∃η',η<+:η'/\HeapOK M η' w ((nx, .rows es [])::setK i (.box row') O) (nx+1):=by
 have hpre:η<+:η++ [none]:=List.prefix_append _ _;have hnew:(η++ [none])[nx]?=some none:=by rw[List.getElem?_append_right (by rw[H.len];omega),H.len];simp
 have hold:∀{i h},lkp i O=some h->(η++ [none])[i]?=η[i]?:=fun{i h} hi=>by
  rw[List.getElem?_append_left (by rw[H.len];exact H.lt hi)]
 have hin:∀{a h},lkp a (setK i (.box row') O)=some h->∃h0,lkp a O=some h0/\HpSat (η++ [none]) w true (.loc a) h/\∀n,feet (η++ [none]) w (.loc a) h n->feet η w (.loc a) h0 n:=by
  intro a h ha;rw[Y2 _ _ _ _ (by rw[hi];rfl)]at ha;split at ha
  ·rename_i e;subst e;injection ha with ha;subst ha;refine⟨_,hi,?_,fun n f=>H.stands hpre hi (fun _ _=>rfl) (show feet (η++ [none]) w (.loc _) (.box row) n from f)⟩;have:=(H.own.1 _ _ hi).1.mono hpre;simp only[HpSat]at this⊢;obtain⟨e,arr,T,fz,h1,h2,h3,h4⟩:=this;refine⟨e,arr,T,fz,h1,h2,h3,fun c sv hc=>?_⟩;rcases Z5D hr c sv hc with hc'|⟨hc',rfl⟩
   ·exact h4 c sv hc'
   ·obtain⟨v,h5,h6,h7⟩:=h4 c _ hc';refine⟨v,h5,h6,?_⟩;simp only[Den]at h7⊢;exact .inl ⟨hnew,h7.1,trivial⟩
  ·exact⟨h,ha,(H.own.1 _ _ ha).1.mono hpre,fun n f=>H.stands hpre ha (fun _ _=>rfl) f⟩
 refine⟨η++ [none],hpre,H.pre.trans hpre,by simp[H.len],⟨fun a h ha=>?_,fun a b h h' n ha hb hab f f'=>?_⟩,H.fr,H.sok⟩
 ·rw[Z8]at ha;split at ha
  ·rename_i e;subst e;injection ha with ha;subst ha
   exact⟨.inl ⟨hnew,rfl⟩,fun n f=>(feet.none (b:= .loc _) hnew f).elim⟩
  ·obtain⟨h0,h1,h2,h3⟩:=hin ha;exact⟨h2,fun n f=>(H.own.1 a h0 h1).2 n (h3 n f)⟩
 ·rw[Z8]at ha hb;split at ha
  ·rename_i e1;subst e1;exact(feet.none (b:= .loc _) hnew f).elim
  ·split at hb
   ·rename_i e2;subst e2;exact(feet.none (b:= .loc _) hnew f').elim
   ·obtain⟨h0,h1,_,h3⟩:=hin ha;obtain⟨h0',h1',_,h3'⟩:=hin hb;exact H.own.2 a b h0 h0' n h1 h1' hab (h3 n f) (h3' n f')
theorem CALL.nilCell{f:FuncId}{args:List SV}{K:SV->Hps->Nat->Prop}(i j es:Nat){row row':List SV}(hi:lkp i O=some (.box row))(hr:Z2g nx es j row=some row')(hc:CALL M f args ((nx, .rows es [])::setK i (.box row') O) (nx+1) K):CALL M f args O nx K:=
 CALL.weak (fun η w H=>H.nilCell hi hr) hc
theorem FIN.here{k:Nat}{r rc:SV}{Oc:Hps}{Q:SV->Hps->Nat->Prop}(hk:M.η0.length=k)(hr:r=rc)(hb:ZS k rc=true)(hbO:Zv k Oc=true)(hO:hereO O Oc)(hQ:Q rc Oc k):FIN M O nx r Q:=by
 have hσ:∀j,j<k->Yx k [] j=j:=fun j hj=>by simp[Yx,hj]
 refine FIN.keep hk [] (rc:=rc) (Oc:=Oc) (fun i hi=>by cases hi) (by rw[Vc hσ hb];exact hr) hb ?_ ?_ hQ
 ·intro p hp;obtain⟨h1,h2⟩:=X0 hbO p hp;exact⟨h1,by rw[hσ _ h1,Uj hσ h2];exact hO.at p hp,h2⟩
 ·intro j hj j' hj' he;rwa [hσ j (X1 hbO j hj),hσ j' (X1 hbO j' hj')]at he
def Loose(k:Nat):List SV->List SV->Prop
 |_,[]=>True
 | [],_::_=>False
 |c::cs,c'::cs'=>(c'= .any\/(c'=c/\ZS k c=true))/\Loose k cs cs'
theorem Loose.get{k:Nat}:∀{row row':List SV},Loose k row row'->∀(j:Nat) (sv:SV),row'[j]?=some sv->∃c,row[j]?=some c/\(sv= .any\/(sv=c/\ZS k c=true))
 |_,[],_,j,sv,h=>by simp at h
 | [],_::_,h,_,_,_=>h.elim
 |c::cs,c'::cs',h,0,sv,hj=>by simp at hj;subst hj;exact⟨c,rfl,h.1⟩
 |c::cs,c'::cs',h,j+1,sv,hj=>by simp at hj;obtain⟨d,h1,h2⟩:=Loose.get h.2 j sv hj;exact⟨d,by simpa using h1,h2⟩
theorem FIN.loose{k:Nat}{r:SV}{Q:SV->Hps->Nat->Prop}(hk:M.η0.length=k)(i:Nat)(row':List SV){row:List SV}(hr:plain r=true)(hO:lkp i O=some (.box row))(hi:Nat.blt i k=true)(hl:Loose k row row')(hQ:Q r [(i, .box row')] k):FIN M O nx r Q:=by
 refine⟨fun η w v H hd=>⟨r,[(i, .box row')],k,M.η0,hQ,List.prefix_rfl,?_,?_⟩⟩
 ·have hi:i<k:=by simpa[Nat.blt_eq]using hi
  have hget:∀j,j<k->η[j]?=M.η0[j]?:=fun j hj=>by
   obtain⟨t,ht⟩:=H.pre;rw[<-ht,List.getElem?_append_left (by omega)]
  have hb:Bwd η M.η0 id k:=fun j x hj hx=>by rw[<-hget j hj];exact hx
  have hsat:HpSat M.η0 w true (.loc i) (.box row'):=by
   have:=(H.own.1 i _ hO).1;simp only[HpSat]at this⊢;obtain⟨e,arr,T,fz,h1,h2,h3,h4⟩:=this;refine⟨e,arr,T,fz,by simp only[Env.get]at h1⊢;rw[<-hget i hi];exact h1,h2,h3,fun j sv hj=>?_⟩;obtain⟨c,h5,h6⟩:=hl.get j sv hj;obtain⟨u,h7,h8,h9⟩:=h4 j c h5;refine⟨u,h7,h8,?_⟩;rcases h6 with rfl|⟨rfl,h6⟩
   ·simp only[Den]
   ·exact Den.unren hb h6 (by rw[Z2c (σ:=id) (fun _=>rfl)];exact h9)
  refine⟨List.prefix_rfl,hk,⟨fun j h hj=>?_,fun a b h h' n ha hb' hab=>?_⟩,H.fr,H.sok⟩
  ·rw[Z8]at hj;split at hj
   ·rename_i e;subst e;injection hj with hj;subst hj
    exact⟨hsat,fun n f=>(H.own.1 _ _ hO).2 n ((show feet M.η0 w (.loc _) (.box row) n from f).mono H.pre)⟩
   ·simp[lkp]at hj
  ·rw[Z8]at ha hb';split at ha
   ·split at hb'
    ·rename_i e1 e2;exact(hab (e1.trans e2.symm)).elim
    ·simp[lkp]at hb'
   ·simp[lkp]at ha
 ·have hb:Bwd η M.η0 (fun i=>i) 0:=fun i x hi=>by omega
  exact Den.unren hb (XH 0 hr) (by rw[J0 _ hr];exact hd)
def anyN:Nat->List SV
 |0=>[]
 |n+1=> .any::anyN n
theorem Z82{η η':Env}:∀{cs:List SV} {vs:List Value},DenL η cs vs->DenL η' (anyN cs.length) vs
 | [],vs,h=>by simpa[DenL,anyN]using h
 |c::cs,vs,h=>by
  simp only[DenL,anyN,List.length_cons]at h⊢;obtain⟨u,us,rfl,_,h⟩:=h;exact⟨u,us,rfl,by simp only[Den],Z82 h⟩
theorem FIN.anyA(n:Nat){k:Nat}{r:SV}{cs vs:List SV}{Q:SV->Hps->Nat->Prop}(hk:M.η0.length=k)(hr:r= .tup (.agg cs::vs))(hn:Uy cs n=true)(hv:YB vs=true)(hQ:Q (.tup (.agg (anyN n)::vs)) [] k):FIN M O nx r Q:=by
 have hn:cs.length=n:=by
  clear hr hQ
  induction n generalizing cs with
  |zero=>cases cs with
   |nil=>rfl
   |cons a l=>simp[Uy]at hn
  |succ n ih=>cases cs with
   |nil=>simp[Uy]at hn
   |cons a l=>simp only[Uy]at hn;simp[ih hn]
 refine⟨fun η w v H hd=>⟨.tup (.agg (anyN n)::vs),[],k,M.η0,hQ,List.prefix_rfl,⟨List.prefix_rfl,hk,⟨fun i h hi=>by simp[lkp]at hi,fun i j h h' n hi=>by simp[lkp]at hi⟩,H.fr,H.sok⟩,?_⟩⟩;rw[hr]at hd;simp only[Den,DenL]at hd⊢;obtain⟨us,h1,u,us',h2,⟨xs,h5,h6,h7⟩,h4⟩:=hd;refine⟨us,h1,u,us',h2,⟨xs,h5,by rw[<-hn];exact Z82 h6,h7⟩,?_⟩;have hb:Bwd η M.η0 (fun i=>i) 0:=fun i x hi=>by omega
 exact DenL.unren hb (ZL 0 hv) (by rw[Y9 _ hv];exact h4)
section
variable {m:Nat}{σ:Nat->Nat}{sv:SV}
theorem Z2h(hs:ZS m sv=true):∀{row:List DC} {c:Nat},YL row=true->Xe m (row.set c (.v sv))=true
 | [],_,_=>rfl
 |d::row,0,h=>by simp only[YL,Bool.and_eq_true]at h;simp only[List.set_cons_zero,Xe,Wk,hs,Jh m h.2,Bool.and_self]
 |d::row,c+1,h=>by simp only[YL,Bool.and_eq_true]at h;simp only[List.set_cons_succ,Xe,Z0u m h.1,Z2h hs h.2,Bool.and_self]
theorem Z0E(hs:ZS m sv=true):∀{rs:List (List DC)} {r c:Nat},ZF rs=true->Yl m (setC rs r c (.v sv))=true
 | [],r,_,_=>by cases r<;>rfl
 |row::rs,0,c,h=>by simp only[ZF,Bool.and_eq_true]at h;simp only[setC,List.modify_zero_cons,Yl,Z2h hs h.1,XU m h.2,Bool.and_self]
 |row::rs,r+1,c,h=>by simp only[ZF,Bool.and_eq_true]at h;simp only[setC,List.modify_succ_cons,Yl,Jh m h.1,Bool.true_and];exact Z0E hs h.2
theorem Z5E:∀{row:List DC} {c:Nat},YL row=true->Wi σ (row.set c (.v sv))=row.set c (.v (ren σ sv))
 | [],_,_=>rfl
 |d::row,0,h=>by simp only[YL,Bool.and_eq_true]at h;simp only[List.set_cons_zero,Wi,renC,Vl σ h.2]
 |d::row,c+1,h=>by simp only[YL,Bool.and_eq_true]at h;simp only[List.set_cons_succ,Wi,Z3k σ h.1,Z5E h.2]
theorem Z3w:∀{rs:List (List DC)} {r c:Nat},ZF rs=true->Xl σ (setC rs r c (.v sv))=setC rs r c (.v (ren σ sv))
 | [],r,_,_=>by cases r<;>rfl
 |row::rs,0,c,h=>by simp only[ZF,Bool.and_eq_true]at h;simp only[setC,List.modify_zero_cons,Xl,Z5E h.1,JQ σ h.2]
 |row::rs,r+1,c,h=>by simp only[ZF,Bool.and_eq_true]at h;simp only[setC,List.modify_succ_cons,Xl,Vl σ h.1];exact congrArg (row:: ·) (Z3w h.2)
theorem Z8W{mp:Bool}{es r c:Nat}{rs:List (List DC)}(h:ZF rs=true)(hs:ZS m sv=true):Zs m (.deep mp es (setC rs r c (.v sv)))=true:=Z0E hs h
theorem ZcV{mp:Bool}{es r c:Nat}{rs:List (List DC)}(h:ZF rs=true):Hp.deep mp es (setC rs r c (.v (ren σ sv)))=renH σ (.deep mp es (setC rs r c (.v sv))):=by simp only[renH,Z3w h]
end
class PlF{α:Type}(f:α->List SV):Prop where
 h:∀x,YB (f x)=true
class Pl(rs:List (List SV)):Prop where
 h:Zn rs=true
class PlD(rs:List (List DC)):Prop where
 h:ZF rs=true
instance {α:Type}{f:α->List SV}[p:PlF f]{l:List α}:Pl (l.map f):=⟨Yb f p.h l⟩
instance :PlF bytesRow:=⟨fun _=>rfl⟩
theorem Zm{m i:Nat}{h:Hp}{O:Hps}(h1:Nat.blt i m=true)(h2:Zs m h=true)(h3:Zv m O=true):Zv m ((i,h)::O)=true:=by simp only[Zv,h1,h2,h3,Bool.and_self]
theorem Yr{k:IntKind}{a b:Int}(h:a=b):Hp.box [.int k a]=Hp.box [.int k b]:=by rw[h]
theorem X9{b:Blk}{r es n n':Nat}{lim:Option Nat}(h:n=n'):Hp.box [.sl b r es n lim]=Hp.box [.sl b r es n' lim]:=by rw[h]
section
variable {m es:Nat}{σ τ:Nat->Nat}{rs:List (List SV)}{ds:List (List DC)}{mp:Bool}
theorem Wt[p:Pl rs]:Zs m (.rows es rs)=true:=J1 m (h:= .rows es rs) p.h
theorem Wu[p:Pl rs]:Zs m (.mp rs)=true:=J1 m (h:= .mp rs) p.h
theorem Vt[p:PlD ds]:Zs m (.deep mp es ds)=true:=J1 m (h:= .deep mp es ds) p.h
theorem Vu{r c:Nat}{sv:SV}[p:PlD ds](h:ZS m sv=true):Zs m (.deep mp es (setC ds r c (.v sv)))=true:=Z8W p.h h
theorem Z6T{r c:Nat}{sv sv':SV}[p:PlD ds](h:sv'=ren σ sv):Hp.deep mp es (setC ds r c (.v sv'))=renH σ (.deep mp es (setC ds r c (.v sv))):=h▸ZcV p.h
theorem renR[p:Pl rs]:renH σ (.rows es rs)= .rows es rs:=Zc σ (h:= .rows es rs) p.h
theorem renM[p:Pl rs]:renH σ (.mp rs)= .mp rs:=Zc σ (h:= .mp rs) p.h
theorem renDp[p:PlD ds]:renH σ (.deep mp es ds)= .deep mp es ds:=Zc σ (h:= .deep mp es ds) p.h
theorem Z6U[p:Pl rs]:renH σ (.rows es rs)=renH τ (.rows es rs):=renR.trans renR.symm
theorem Z6V[p:Pl rs]:renH σ (.mp rs)=renH τ (.mp rs):=renM.trans renM.symm
theorem Z6W[p:PlD ds]:renH σ (.deep mp es ds)=renH τ (.deep mp es ds):=renDp.trans renDp.symm
end
section
variable {M:Mx}{fr fr':Fr}{O O':Hps}{nx:Nat}
theorem CALL.aA{f:FuncId}{args argsc:List SV}{K:SV->Hps->Nat->Prop}{k:Nat}{Oc Sc:Hps}{Q:SV->Hps->Nat->Prop}(L:List Nat)(sp:Does M.P M.C.T f k argsc Oc Sc Q)
 (hK:∀r O' nx',Q r O' nx'->K (ren (Zk L nx) r) (renO (Zk L nx) O'++Y7 ((Zd Oc).map (Zk L nx)) O) (nx+(nx'-k)))
 (hL:L.length=k:=by exact rfl) (hLn:L.all (fun i=>Nat.blt i nx)=true:=by exact rfl) (ha:args=renL (Zk L nx) argsc:=by exact rfl) (hb:ZT k argsc=true:=by exact rfl)
 (hbO:Zv k Oc=true:=by(repeat'(first|(refine Zm rfl ?_ ?_)|exact Wt|exact Wu|exact Vt|exact Vu rfl|rfl))) (hbS:Zv k Sc=true:=by(repeat'(first|(refine Zm rfl ?_ ?_)|exact Wt|exact Wu|exact Vt|exact Vu rfl|rfl))) (hO:thereO (Zk L nx) O Oc:=by(repeat'(first|exact trivial|(with_reducible rfl)|exact renR.symm|exact Z6U|exact renM.symm|exact Z6V|exact renDp.symm|exact Z6W|exact Z6T rfl|(exact X7 Pl.h (by simp[XX,List.take_of_length_le]<;>rfl))|exact rfl|((conv=>whnf);refine⟨?_,?_⟩)))) (hS:thereS M.C (Zk L nx) O Sc:=by(repeat'(first|exact trivial|(with_reducible rfl)|exact renR.symm|exact Z6U|exact renM.symm|exact Z6V|exact renDp.symm|exact Z6W|exact Z6T rfl|(exact X7 Pl.h (by simp[XX,List.take_of_length_le]<;>rfl))|exact rfl|((conv=>whnf);refine⟨?_,?_⟩))))
 (hinj:(Zd Oc).all (fun j=>(Zd Oc).all fun j'=>!(Nat.beq (Zk L nx j) (Zk L nx j'))||Nat.beq j j')=true:=by exact rfl)
 (hd:(Zd Sc).all (fun j=>!((Zd Oc).any fun j'=>Nat.beq (Zk L nx j) (Zk L nx j')))=true:=by exact rfl):CALL M f args O nx K:=
 CALL.at L sp hL hLn ha hb hbO hbS hO hS hinj hd hK
theorem CALLE.aA{f:FuncId}{args argsc:List SV}{KP K:SV->Hps->Nat->Prop}{k:Nat}{Oc Sc:Hps}{Q X:SV->Hps->Nat->Prop}(L:List Nat)(sp:DoesE M.P M.C.T f k argsc Oc Sc Q X)
 (hK:∀r O' nx',Q r O' nx'->K (ren (Zk L nx) r) (renO (Zk L nx) O'++Y7 ((Zd Oc).map (Zk L nx)) O) (nx+(nx'-k)))
 (hX:∀r O' nx',X r O' nx'->KP (ren (Zk L nx) r) (renO (Zk L nx) O'++Y7 ((Zd Oc).map (Zk L nx)) O) (nx+(nx'-k)))
 (hL:L.length=k:=by exact rfl) (hLn:L.all (fun i=>Nat.blt i nx)=true:=by exact rfl) (ha:args=renL (Zk L nx) argsc:=by exact rfl) (hb:ZT k argsc=true:=by exact rfl)
 (hbO:Zv k Oc=true:=by(repeat'(first|(refine Zm rfl ?_ ?_)|exact Wt|exact Wu|exact Vt|exact Vu rfl|rfl))) (hbS:Zv k Sc=true:=by(repeat'(first|(refine Zm rfl ?_ ?_)|exact Wt|exact Wu|exact Vt|exact Vu rfl|rfl))) (hO:thereO (Zk L nx) O Oc:=by(repeat'(first|exact trivial|(with_reducible rfl)|exact renR.symm|exact Z6U|exact renM.symm|exact Z6V|exact renDp.symm|exact Z6W|exact Z6T rfl|(exact X7 Pl.h (by simp[XX,List.take_of_length_le]<;>rfl))|exact rfl|((conv=>whnf);refine⟨?_,?_⟩)))) (hS:thereS M.C (Zk L nx) O Sc:=by(repeat'(first|exact trivial|(with_reducible rfl)|exact renR.symm|exact Z6U|exact renM.symm|exact Z6V|exact renDp.symm|exact Z6W|exact Z6T rfl|(exact X7 Pl.h (by simp[XX,List.take_of_length_le]<;>rfl))|exact rfl|((conv=>whnf);refine⟨?_,?_⟩))))
 (hinj:(Zd Oc).all (fun j=>(Zd Oc).all fun j'=>!(Nat.beq (Zk L nx j) (Zk L nx j'))||Nat.beq j j')=true:=by exact rfl)
 (hd:(Zd Sc).all (fun j=>!((Zd Oc).any fun j'=>Nat.beq (Zk L nx j) (Zk L nx j')))=true:=by exact rfl):CALLE M f args O nx KP K:=
 CALLE.at L sp hL hLn ha hb hbO hbS hO hS hinj hd hK hX
theorem FIN.aA{k:Nat}{r:SV}{Q:SV->Hps->Nat->Prop}(hk:M.η0.length=k)(τ:List Nat)(rc:SV)(Oc:Hps)(hQ:Q rc Oc (k+τ.length))(hτ:τ.all (fun i=>Nat.blt i nx)=true:=by exact rfl)(hr:r=ren (Yx k τ) rc:=by exact rfl)(hb:ZS (k+τ.length) rc=true:=by exact rfl)(hbO:Zv (k+τ.length) Oc=true:=by(repeat'(first|(refine Zm rfl ?_ ?_)|exact Wt|exact Wu|exact Vt|exact Vu rfl|rfl)))
 (hO:thereO (Yx k τ) O Oc:=by(repeat'(first|exact trivial|(with_reducible rfl)|exact renR.symm|exact Z6U|exact renM.symm|exact Z6V|exact renDp.symm|exact Z6W|exact Z6T rfl|(exact X7 Pl.h (by simp[XX,List.take_of_length_le]<;>rfl))|exact rfl|((conv=>whnf);refine⟨?_,?_⟩)))) (hinj:(Zd Oc).all (fun j=>(Zd Oc).all fun j'=>!(Nat.beq (Yx k τ j) (Yx k τ j'))||Nat.beq j j')=true:=by exact rfl):FIN M O nx r Q:=
 FIN.at hk τ rc Oc hτ hr hb hbO hO hinj hQ
theorem CALL.hA{f:FuncId}{args:List SV}{K:SV->Hps->Nat->Prop}{k:Nat}{Oc Sc:Hps}{Q:SV->Hps->Nat->Prop}(sp:Does M.P M.C.T f k args Oc Sc Q)
 (hQ:∀r O' nx',Q r O' nx'->nx'=k/\ZS k r=true/\Zv k O'=true) (hK:∀r O',Q r O' k->K r (O'++Y7 (Zd Oc) O) nx)
 (hk:Nat.ble k nx=true:=by exact rfl) (hb:ZT k args=true:=by exact rfl) (hbO:Zv k Oc=true:=by(repeat'(first|(refine Zm rfl ?_ ?_)|exact Wt|exact Wu|exact Vt|exact Vu rfl|rfl))) (hbS:Zv k Sc=true:=by(repeat'(first|(refine Zm rfl ?_ ?_)|exact Wt|exact Wu|exact Vt|exact Vu rfl|rfl))) (hO:hereO O Oc:=by(repeat'(first|exact trivial|exact rfl|((conv=>whnf);refine⟨?_,?_⟩)))) (hS:hereS M.C O Sc:=by(repeat'(first|exact trivial|exact rfl|((conv=>whnf);refine⟨?_,?_⟩))))
 (hd:(Zd Sc).all (fun j=>!((Zd Oc).any (Nat.beq j)))=true:=by exact rfl):CALL M f args O nx K:=CALL.here sp hk hb hbO hbS hO hS hd hQ hK
theorem GOES.cA{k m:Nat}(hk:M.η0.length=k)(hkm:Nat.ble k m=true:=by exact rfl)(hmn:Nat.ble m nx=true:=by exact rfl)(hbf:Vs m fr'=true:=by exact rfl)(hbo:Zv m O'=true:=by(repeat'(first|(refine Zm rfl ?_ ?_)|exact Wt|exact Wu|exact Vt|exact Vu rfl|rfl)))
 (hf:cutK fr fr':=by(repeat'(first|(with_reducible rfl)|exact trivial|(exact YY rfl (by first|omega|(simp(disch:=omega) only[lnB,Z6,Z9]<;>omega)|(simp;done)|(simp<;>omega)))|(exact congrArg (SV.int _) (by first|omega|(simp(disch:=omega) only[lnB,Z6,Z9]<;>omega)|(simp;done)|(simp<;>omega)))|(exact Yr (by first|omega|(simp(disch:=omega) only[lnB,Z6,Z9]<;>omega)|(simp;done)|(simp<;>omega)))|(exact X9 (by first|omega|(simp(disch:=omega) only[lnB,Z6,Z9]<;>omega)|(simp;done)|(simp<;>omega)))|exact renR|exact renM|exact renDp|(with_reducible assumption)|(exact congrArg (Hp.rows _) (by simp[List.take_of_length_le]<;>rfl))|((conv=>whnf);refine⟨?_,?_⟩)|(simp;done)|rfl))) (hO:Zau O O':=by(repeat'(first|(with_reducible rfl)|exact trivial|(exact YY rfl (by first|omega|(simp(disch:=omega) only[lnB,Z6,Z9]<;>omega)|(simp;done)|(simp<;>omega)))|(exact congrArg (SV.int _) (by first|omega|(simp(disch:=omega) only[lnB,Z6,Z9]<;>omega)|(simp;done)|(simp<;>omega)))|(exact Yr (by first|omega|(simp(disch:=omega) only[lnB,Z6,Z9]<;>omega)|(simp;done)|(simp<;>omega)))|(exact X9 (by first|omega|(simp(disch:=omega) only[lnB,Z6,Z9]<;>omega)|(simp;done)|(simp<;>omega)))|exact renR|exact renM|exact renDp|(with_reducible assumption)|(exact congrArg (Hp.rows _) (by simp[List.take_of_length_le]<;>rfl))|((conv=>whnf);refine⟨?_,?_⟩)|(simp;done)|rfl))) (hd:Z0w fr fr'=true:=by exact rfl) (hro:Z0x M.C.ro id m=true:=by exact rfl):GOES M fr O nx fr' O' m:=GOES.cutting hk hkm hmn hbf hbo hf hO hd hro
theorem GOES.kA{k:Nat}(hk:M.η0.length=k)(τ:List Nat)(hτ:τ.all (fun i=>Nat.blt i nx)=true:=by exact rfl)
 (hn:(Zd O').all (fun j=>(Zd O').all fun j'=>!(Nat.beq (Yx k τ j) (Yx k τ j'))||Nat.beq j j')=true:=by exact rfl)
 (hbf:Vs (k+τ.length) fr'=true:=by exact rfl) (hbo:Zv (k+τ.length) O'=true:=by(repeat'(first|(refine Zm rfl ?_ ?_)|exact Wt|exact Wu|exact Vt|exact Vu rfl|rfl))) (hf:subK (Yx k τ) fr fr':=by(repeat'(first|(with_reducible rfl)|exact trivial|exact renR.symm|exact Z6U|exact renM.symm|exact Z6V|exact renDp.symm|exact Z6W|exact Z6T rfl|(exact YY rfl (by first|omega|(simp(disch:=omega) only[lnB,Z6,Z9]<;>omega)|(simp;done)|(simp<;>omega)))|(exact congrArg (SV.int _) (by first|omega|(simp(disch:=omega) only[lnB,Z6,Z9]<;>omega)|(simp;done)|(simp<;>omega)))|(exact Yr (by first|omega|(simp(disch:=omega) only[lnB,Z6,Z9]<;>omega)|(simp;done)|(simp<;>omega)))|(exact X9 (by first|omega|(simp(disch:=omega) only[lnB,Z6,Z9]<;>omega)|(simp;done)|(simp<;>omega)))|(with_reducible assumption)|(exact X7 Pl.h (by simp[XX,List.take_of_length_le]<;>rfl))|((conv=>whnf);refine⟨?_,?_⟩)|(simp only[ren,renB];done)|rfl))) (hO:Zay (Yx k τ) O O':=by(repeat'(first|(with_reducible rfl)|exact trivial|exact renR.symm|exact Z6U|exact renM.symm|exact Z6V|exact renDp.symm|exact Z6W|exact Z6T rfl|(exact YY rfl (by first|omega|(simp(disch:=omega) only[lnB,Z6,Z9]<;>omega)|(simp;done)|(simp<;>omega)))|(exact congrArg (SV.int _) (by first|omega|(simp(disch:=omega) only[lnB,Z6,Z9]<;>omega)|(simp;done)|(simp<;>omega)))|(exact Yr (by first|omega|(simp(disch:=omega) only[lnB,Z6,Z9]<;>omega)|(simp;done)|(simp<;>omega)))|(exact X9 (by first|omega|(simp(disch:=omega) only[lnB,Z6,Z9]<;>omega)|(simp;done)|(simp<;>omega)))|(with_reducible assumption)|(exact X7 Pl.h (by simp[XX,List.take_of_length_le]<;>rfl))|((conv=>whnf);refine⟨?_,?_⟩)|(simp only[ren,renB];done)|rfl))) (hd:Z0w fr fr'=true:=by exact rfl) (hro:Z0x M.C.ro (Yx k τ) (k+τ.length)=true:=by exact rfl):GOES M fr O nx fr' O' (k+τ.length):=
 GOES.keeping hk τ hτ hn hbf hbo hf hO hd hro
end
theorem AU{P Q:Prop}(k:Q)(h:Q->P:=by first|(with_reducible exact IF.tt)|(with_reducible exact IF.ff)|(with_reducible exact GET.at rfl)|(with_reducible exact GETG.at rfl)|((with_reducible refine fun k=>NEED.mk ?_ k);first|with_reducible rfl|omega|(simp(disch:=omega) only[lnB,Z6,Z9]<;>omega)|(intro h;(try simp(disch:=omega) only[hsB,hsC,lnB,Z6,Z9,simprocAttr]at h);(first|omega|(simp(disch:=omega) only[lnB,Z6,Z9]<;>omega)))|(exact Yc 256 rfl rfl (by simp) (by simp) (by omega))|(exact⟨by omega,Z14 (by omega)⟩)|(exact⟨by omega,by omega,Z14 (by omega)⟩)|(simp<;>omega))):P:=h k
theorem IW{J:Type}{b:Bool}{A B:J->Prop}{j:J}{p q:Prop}(x:p->A j)(y:q->B j)
 (hp:b=true->p:=by(intro h;first|(simp(disch:=omega) only[hsB,hsC,lnB,Z6,Z9,simprocAttr]at h;exact h)|(exact(show(0:Nat)=1 by simp(disch:=omega) only[hsB,hsC,lnB,Z6,Z9,simprocAttr]at h))|exact h))
 (hq:b=false->q:=by(intro h;first|(simp(disch:=omega) only[hsB,hsC,lnB,Z6,Z9,simprocAttr]at h;exact h)|(exact(show(0:Nat)=1 by simp(disch:=omega) only[hsB,hsC,lnB,Z6,Z9,simprocAttr]at h))|exact h)):IF b A B j:=⟨fun h=>x (hp h),fun h=>y (hq h)⟩
theorem Zf2{b:Blk}{r es len:Nat}{lim:Option Nat}(h:0<len):Det (.sl b r es len lim):=by
 intro η u u' h1 h2;simp only[Den]at h1 h2;rcases h1 with⟨_,_,h0⟩|⟨e,o,g1,rfl,g3,g4,g5⟩
 ·omega
 rcases h2 with⟨_,_,h0⟩|⟨e',o',k1,rfl,k3,k4,k5⟩
 ·omega
 rw[g1]at k1;injection k1 with k1;injection k1 with k1;subst k1;rw[g5 (.inl (by omega)),k5 (.inl (by omega))]
theorem AD{P Q:Prop}(k:Q)(h:Q->P:=by first|exact fun k=>NEED.mk (Det.of rfl) k|exact fun k=>NEED.mk (Zf2 (by omega)) k):P:=h k
end Go.Sx
namespace Go.Our
open Go.Sx
structure Tri{α:Type}(c:α->α->Int):Prop where
 rng:∀a b,c a b= -1\/c a b=0\/c a b=1
 anti:∀a b,c b a= -c a b
 zero:∀a b,c a b=0<->a=b
 trans:∀a b d,c a b<=0->c b d<=0->c a d<=0
def cmpI(a b:Int):Int:=if a<b then-1 else if a>b then 1 else 0
theorem triI:Tri cmpI where
 rng a b:=by unfold cmpI;(repeat' split)<;>omega
 anti a b:=by unfold cmpI;(repeat' split)<;>omega
 zero a b:=by unfold cmpI;(repeat' split)<;>omega
 trans a b d:=by unfold cmpI;(repeat' split)<;>omega
open Lib (compareBytes)
theorem Zek:∀a b,compareBytes a b= -1\/compareBytes a b=0\/compareBytes a b=1
 | [],[]=>by simp[compareBytes]
 | [],_::_=>by simp[compareBytes]
 |_::_,[]=>by simp[compareBytes]
 |a::as_,b::bs=>by
  unfold compareBytes;split
  ·simp
  ·split
   ·simp
   ·exact Zek as_ bs
theorem ZaC:∀a b,compareBytes b a= -compareBytes a b
 | [],[]=>by simp[compareBytes]
 | [],_::_=>by simp[compareBytes]
 |_::_,[]=>by simp[compareBytes]
 |a::as_,b::bs=>by
  unfold compareBytes;simp only[UInt8.lt_iff_toNat_lt];by_cases h:a.toNat<b.toNat
  ·have:¬b.toNat<a.toNat:=by omega
   simp[h,this]
  ·by_cases h':b.toNat<a.toNat
   ·simp[h,h']
   ·simp only[h,h',if_false];exact ZaC as_ bs
theorem ZaD:∀a b,compareBytes a b=0<->a=b
 | [],[]=>by simp[compareBytes]
 | [],_::_=>by simp[compareBytes]
 |_::_,[]=>by simp[compareBytes]
 |a::as_,b::bs=>by
  unfold compareBytes;simp only[UInt8.lt_iff_toNat_lt,List.cons.injEq,<-UInt8.toNat_inj];by_cases h:a.toNat<b.toNat
  ·simp[h];omega
  ·by_cases h':b.toNat<a.toNat
   ·simp[h,h'];omega
   ·have:a.toNat=b.toNat:=by omega
    simp only[this,Nat.lt_irrefl,if_false,true_and];exact ZaD as_ bs
theorem Z83:∀a b c,compareBytes a b<=0->compareBytes b c<=0->compareBytes a c<=0
 | [],_,[]=>by simp[compareBytes]
 | [],_,_::_=>by simp[compareBytes]
 |_::_,[],_=>by simp[compareBytes]
 |_::_,_::_,[]=>by simp[compareBytes]
 |a::as_,b::bs,c::cs=>by
  unfold compareBytes;simp only[UInt8.lt_iff_toNat_lt];have ih:=Z83 as_ bs cs
  (repeat' split)<;>first|omega|(intro x y;first|exact ih x y|omega)
def cmpL(a b:List UInt8):Int:=compareBytes a b
theorem triL:Tri cmpL where
 rng a b:=Zek _ _
 anti a b:=ZaC _ _
 zero a b:=ZaD _ _
 trans a b d:=Z83 _ _ _
def XQ{β γ:Type}(c:β->β->Int)(d:γ->γ->Int)(a b:β×γ):Int:=if c a.1 b.1≠0 then c a.1 b.1 else d a.2 b.2
theorem Uk{β γ:Type}{c:β->β->Int}{d:γ->γ->Int}(hc:Tri c)(hd:Tri d):Tri (XQ c d) where
 rng a b:=by unfold XQ;split<;>first|exact hc.rng _ _|exact hd.rng _ _
 anti a b:=by
  unfold XQ;rw[hc.anti a.1 b.1,hd.anti a.2 b.2];by_cases h:c a.1 b.1=0
  ·simp[h]
  ·have:¬ -c a.1 b.1=0:=by omega
   simp[h,this]
 zero a b:=by
  unfold XQ;by_cases h:c a.1 b.1=0
  ·simp only[h,ne_eq,not_true_eq_false,if_false];rw[hd.zero];have hf:=(hc.zero _ _).1 h;exact⟨fun hg=>Prod.ext hf hg,fun e=>by rw[e]⟩
  ·simp only[ne_eq,h,not_false_eq_true,if_true,false_iff];intro e;subst e;exact h ((hc.zero _ _).2 rfl)
 trans a b e:=by
  unfold XQ;intro h1 h2;have r1:=hc.rng a.1 b.1;have r2:=hc.rng b.1 e.1;have t1:=hc.trans a.1 b.1 e.1;by_cases x:c a.1 b.1=0
  ·have ex:=(hc.zero _ _).1 x;simp only[x,ne_eq,not_true_eq_false,if_false]at h1;rw[ex];by_cases y:c b.1 e.1=0
   ·simp only[y,ne_eq,not_true_eq_false,if_false]at h2⊢;exact hd.trans _ _ _ h1 h2
   ·simp only[ne_eq,y,not_false_eq_true,if_true]at h2⊢;exact h2
  ·simp only[ne_eq,x,not_false_eq_true,if_true]at h1;by_cases y:c b.1 e.1=0
   ·have ey:=(hc.zero _ _).1 y;rw[<-ey];simp only[ne_eq,x,not_false_eq_true,if_true];exact h1
   ·simp only[ne_eq,y,not_false_eq_true,if_true]at h2;have hle:=t1 h1 h2
    have hne:c a.1 e.1≠0:=by
     intro hz;have e1:=(hc.zero _ _).1 hz;rw[<-e1]at h2 y;have:=hc.anti a.1 b.1;omega
    simp only[ne_eq,hne,not_false_eq_true,if_true];exact hle
theorem ZaE{α β:Type}{c:β->β->Int}(hc:Tri c)(f:α->β)(hf:∀a b,f a=f b->a=b):Tri (fun a b=>c (f a) (f b)) where
 rng a b:=hc.rng _ _
 anti a b:=hc.anti _ _
 zero a b:=by rw[hc.zero];exact⟨hf a b,fun e=>by rw[e]⟩
 trans a b d:=hc.trans _ _ _
theorem Z0F:∀a b:List UInt8,Op.bytesLess a b=decide (Lib.compareBytes a b<0)
 | [],[]=>by simp[Op.bytesLess,Lib.compareBytes]
 | [],_::_=>by simp[Op.bytesLess,Lib.compareBytes]
 |_::_,[]=>by simp[Op.bytesLess,Lib.compareBytes]
 |a::as_,b::bs=>by
  unfold Op.bytesLess Lib.compareBytes;rw[Z0F as_ bs];simp only[UInt8.lt_iff_toNat_lt]
  have hbeq:(a==b)=decide (a.toNat=b.toNat):=by
   rw[Bool.eq_iff_iff];simp[UInt8.toNat_inj]
  rw[hbeq];by_cases h:a.toNat<b.toNat
  ·simp[h]
  ·by_cases h':b.toNat<a.toNat
   ·have:¬a.toNat=b.toNat:=by omega
    simp[h,h',this]
   ·have:a.toNat=b.toNat:=by omega
    simp[this]
def Tm.key(x:Tm):Int×List UInt8×List UInt8×List UInt8:=(x.k,x.t,x.y,x.l)
def UA(a b:Tm):Int:=XQ cmpI (XQ cmpL (XQ cmpL cmpL)) a.key b.key
theorem triT:Tri UA:=ZaE (Uk triI (Uk triL (Uk triL triL))) Tm.key (fun a b h=>by
 cases a;cases b;simp[Tm.key]at h;simp[h])
def Qd.key(q:Qd):Tm×Tm×Tm×Tm:=(q.g,q.s,q.p,q.o)
def ZH(a b:Qd):Int:=XQ UA (XQ UA (XQ UA UA)) a.key b.key
theorem triQ:Tri ZH:=ZaE (Uk triT (Uk triT (Uk triT triT))) Qd.key (fun a b h=>by
 cases a;cases b;simp[Qd.key]at h;simp[h])
def orI:List Int->Int
 | []=>0
 |x::l=>if x≠0 then x else orI l
theorem Zgg(a b:Tm):orI [cmpI a.k b.k,cmpL a.t b.t,cmpL a.y b.y,cmpL a.l b.l]=UA a b:=by
 simp only[orI,UA,XQ,Tm.key]
 (repeat' split)<;>simp_all
theorem Zgh(a b:Qd):orI [UA a.g b.g,UA a.s b.s,UA a.p b.p,UA a.o b.o]=ZH a b:=by
 simp only[orI,ZH,XQ,Qd.key]
 (repeat' split)<;>simp_all
abbrev Qd.row(q:Qd):List SV:=[.int .i64 q.s.k, .str q.s.t, .str q.s.y, .str q.s.l, .int .i64 q.p.k, .str q.p.t, .str q.p.y, .str q.p.l, .int .i64 q.o.k, .str q.o.t, .str q.o.y, .str q.o.l, .int .i64 q.g.k, .str q.g.t, .str q.g.y, .str q.g.l]
def Zl(q:Qd):List SV:=q.row
def Z2i(x:Tm):List SV:=[.int .i64 x.k, .str x.t, .str x.y, .str x.l]
instance :PlF Z2i:=⟨fun _=>rfl⟩
theorem Tm.ext'{a b:Tm}(h:Z2i a=Z2i b):a=b:=by
 obtain⟨_,_,_,_⟩:=a;obtain⟨_,_,_,_⟩:=b;simp only[Z2i,List.cons.injEq,SV.int.injEq,SV.str.injEq,true_and,and_true]at h
 simp_all
def Yv:Qd:=⟨Y6,Y6,Y6,Y6⟩
theorem Zb(l:List Qd):Zn (l.map Zl)=true:=Yb _ (fun _=>rfl) l
instance :PlF Zl:=⟨fun _=>rfl⟩
theorem ZaF{α:Type}(f:α->List SV)(l z:List α):(((l++z).map f).drop 0).take l.length=l.map f:=by
 rw[List.drop_zero,List.map_append,List.take_append_of_le_length (by simp),List.take_of_length_le (by simp)]
theorem Z84{α:Type}(f:α->List SV)(l:List α)(i:Nat)(x:α):(l.map f).set i (f x)=(l.set i x).map f:=by rw[List.map_set]
theorem YP{α:Type}{f:α->List SV}{l:List α}{i j:Nat}(h:i<l.length)(hj:j=i):(l.map f)[j]?=some (f l[i]):=by
 subst hj;rw[List.getElem?_map,List.getElem?_eq_getElem h];rfl
theorem Qd.ext'{a b:Qd}(h:Zl a=Zl b):a=b:=by
 obtain⟨⟨_,_,_,_⟩,⟨_,_,_,_⟩,⟨_,_,_,_⟩,⟨_,_,_,_⟩⟩:=a;obtain⟨⟨_,_,_,_⟩,⟨_,_,_,_⟩,⟨_,_,_,_⟩,⟨_,_,_,_⟩⟩:=b;simp only[Zl,Qd.row,List.cons.injEq,SV.int.injEq,SV.str.injEq,true_and,and_true]at h
 simp_all
end Go.Our
set_option linter.unusedSectionVars false
namespace Go.Our
section
variable {α:Type}{c:α->α->Int}
theorem Tri.lt_trans(h:Tri c){x y z:α}(h1:c x y<0)(h2:c y z<=0):c x z<0:=by
 have h3:=h.trans x y z (by omega) h2;rcases Int.lt_or_eq_of_le h3 with h4|h4
 ·exact h4
 ·have e:=(h.zero x z).1 h4;subst e;have:=h.anti x y;omega
theorem Tri.self(h:Tri c)(x:α):c x x=0:=(h.zero x x).2 rfl
theorem Tri.ne(h:Tri c){x y:α}(hl:c x y<0):x≠y:=fun e=>by subst e;have:=h.self x;omega
def Rise(c:α->α->Int)(l:List α):Prop:=l.Pairwise fun a b=>c a b<0
theorem Z85(h:Tri c):∀{l m:List α},Rise c l->Rise c m->(∀x,x∈l<->x∈m)->l=m
 | [],[],_,_,_=>rfl
 | [],y::m,_,_,he=>by have:=(he y).2 (by simp);simp at this
 |x::l,[],_,_,he=>by have:=(he x).1 (by simp);simp at this
 |x::l,y::m,hl,hm,he=>by
  have hl:=List.pairwise_cons.1 hl;have hm:=List.pairwise_cons.1 hm
  have hxy:x=y:=by
   rcases List.mem_cons.1 ((he x).1 (by simp))with e|hx
   ·exact e
   ·rcases List.mem_cons.1 ((he y).2 (by simp))with e|hy
    ·exact e.symm
    ·have h1:=hm.1 x hx;have h2:=hl.1 y hy;have:=h.anti x y;omega
  subst hxy;congr 1;refine Z85 h hl.2 hm.2 fun z=>⟨fun hz=>?_,fun hz=>?_⟩
  ·rcases List.mem_cons.1 ((he z).1 (by simp[hz]))with e|h1
   ·subst e;exact(h.ne (hl.1 _ hz) rfl).elim
   ·exact h1
  ·rcases List.mem_cons.1 ((he z).2 (by simp[hz]))with e|h1
   ·subst e;exact(h.ne (hm.1 _ hz) rfl).elim
   ·exact h1
end
section
variable {α:Type}[DecidableEq α]{c:α->α->Int}
def Z5:List α->List α
 | []=>[]
 | [a]=>[a]
 |a::b::l=>if a=b then Z5 (b::l)else a::Z5 (b::l)
theorem UW:∀(l:List α) (x:α),x∈Z5 l<->x∈l
 | [],x=>by simp[Z5]
 | [a],x=>by simp[Z5]
 |a::b::l,x=>by
  have ih:=UW (b::l) x;unfold Z5;split
  ·rename_i e;subst e;rw[ih];simp
  ·rw[List.mem_cons,ih];simp[List.mem_cons]
def leC(c:α->α->Int)(x y:α):Bool:=!(decide (c y x<0))
theorem VU(h:Tri c){x y:α}:leC c x y=true<->c x y<=0:=by
 have:=h.anti x y;unfold leC;simp only[Bool.not_eq_true',decide_eq_false_iff_not];omega
theorem Z0G(h:Tri c):∀(l:List α),l.Pairwise (fun a b=>c a b<=0)->Rise c (Z5 l)
 | [],_=>List.Pairwise.nil
 | [a],_=>by simp[Z5,Rise]
 |a::b::l,hp=>by
  have hp':=List.pairwise_cons.1 hp;have ih:=Z0G h (b::l) hp'.2;unfold Z5;split
  ·exact ih
  ·rename_i hne;refine List.pairwise_cons.2 ⟨fun x hx=>?_,ih⟩;rw[UW]at hx
   have hab:c a b<0:=by
    have h1:=hp'.1 b (by simp);have h2:c a b≠0:=fun e=>hne ((h.zero a b).1 e);omega
   rcases List.mem_cons.1 hx with rfl|hx
   ·exact hab
   ·exact h.lt_trans hab ((List.pairwise_cons.1 hp'.2).1 x hx)
def setL(c:α->α->Int)(l:List α):List α:=Z5 (l.mergeSort (leC c))
theorem J8(l:List α)(x:α):x∈setL c l<->x∈l:=by
 unfold setL;rw[UW];exact List.mem_mergeSort
theorem Xy(h:Tri c)(l:List α):Rise c (setL c l):=by
 refine Z0G h _ ?_
 have:=List.pairwise_mergeSort (le:=leC c) (fun a b d h1 h2=>by rw[VU h]at*;exact h.trans a b d h1 h2) (fun a b=>by
  have:=h.anti a b
  rw[Bool.or_eq_true,VU h,VU h];omega) l
 exact this.imp fun h1=>(VU h).1 h1
theorem ZaG(h:Tri c){l m:List α}(hm:Rise c m)(he:∀x,x∈m<->x∈l):m=setL c l:=Z85 h hm (Xy h l) fun x=>(he x).trans (J8 l x).symm
theorem ZcW(h:Tri c){l:List α}(hl:Rise c l):setL c l=l:=(ZaG h hl fun _=>Iff.rfl).symm
theorem Vv:∀(l:List α),(Z5 l).length<=l.length
 | []=>by simp[Z5]
 | [a]=>by simp[Z5]
 |a::b::l=>by
  have ih:=Vv (b::l);unfold Z5;split
  ·simp only[List.length_cons]at ih⊢;omega
  ·simp only[List.length_cons]at ih⊢;omega
theorem JA(l:List α):(setL c l).length<=l.length:=by
 have:=Vv (l.mergeSort (leC c));rw[List.length_mergeSort]at this;exact this
end
end Go.Our
namespace Go.Our
section
variable {α:Type}{c:α->α->Int}
def wanted(f b s p q:Prop):Prop:=(f/\p/\¬q)\/(b/\p/\q)\/(s/\¬p/\q)
end
section
variable {α:Type}[DecidableEq α]{c:α->α->Int}
theorem Z86{l:List α}(hl:Rise c l){i j:Nat}(hij:i<j)(hj:j<l.length):c (l[i]'(by omega)) l[j]<0:=List.pairwise_iff_getElem.1 hl i j (by omega) hj hij
theorem J3:∀{l:List α} {i:Nat} (h0:1<=i) (h:i<l.length),Z5 (l.take (i+1))=if l[i]=l[i-1]'(by omega)then Z5 (l.take i)else Z5 (l.take i)++ [l[i]]
 | [],i,_,h=>by simp at h
 | [a],i,h0,h=>by simp at h;omega
 |a::b::l,0,h0,h=>by omega
 |a::b::l,1,h0,h=>by
  simp only[List.take_succ_cons,List.take_zero,Z5,List.getElem_cons_succ,List.getElem_cons_zero,Nat.sub_self];by_cases e:a=b
  ·subst e;simp
  ·rw[if_neg e,if_neg (fun h=>e h.symm)];rfl
 |a::b::l,i+2,h0,h=>by
  have hi:i+1< (b::l).length:=by simpa using h
  have ih:=J3 (l:=b::l) (i:=i+1) (by omega) hi;have e2:(a::b::l)[i+2-1]'(by simp at h⊢;omega)=(b::l)[i+1-1]'(by simp at h⊢;omega):=rfl;have e3:(a::b::l)[i+2]=(b::l)[i+1]:=rfl;rw[e2,e3];simp only[List.take_succ_cons,Z5]at ih⊢;by_cases e:a=b
  ·simp only[if_pos e];exact ih
  ·simp only[if_neg e,ih];split<;>simp
theorem UX{l:List α}(h:l.length<2):Z5 l=l:=by
 match l,h with
 | [],_=>rfl
 | [a],_=>rfl
theorem Z2j{l:List α}:Z5 (l.take 1)=l.take 1:=UX (by simp;omega)
end
section
variable {α:Type}[DecidableEq α]{c:α->α->Int}
end
def Ym(t:Tm):List (List UInt8):=if t.k=2 then [t.t]else []
def YA(q:Qd):List (List UInt8):=Ym q.s++Ym q.p++Ym q.o++Ym q.g
def ZD(l:List Qd):List (List UInt8):=l.flatMap YA
abbrev Pr:=List UInt8×List UInt8
def toOf(ps:List Pr)(s:List UInt8):Option (List UInt8):=(ps.find? fun p=>decide (p.1=s)).map Prod.snd
def ZO(ps:List Pr)(t:Tm):Tm:=if t.k=2 then match toOf ps t.t with|some u=>{t with t:=u}|none=>t else t
def XB(ps:List Pr)(q:Qd):Qd:=⟨ZO ps q.s,ZO ps q.p,ZO ps q.o,ZO ps q.g⟩
end Go.Our
namespace Go.Our
open Go.Sx
structure KeyK(α:Type)[DecidableEq α] where
 ks:Bool×List CK
 enc:α->SV
 is:∀a b,W6 ks (enc a) (enc b)=decide (a=b)
 ok:∀a,Jg ks (enc a)=true
 pl:∀a,plain (enc a)=true
section
variable {α β:Type}[DecidableEq α](K:KeyK α)
def VV(f:β->SV)(l:List (α×β)):List (List SV):=l.map fun p=>[K.enc p.1,f p.2]
def Z3x(es:Nat)(f:β->List (List SV))(l:List (α×β)):List (List DC):=l.map fun p=>[.v (K.enc p.1), .kid es (f p.2)]
def ixA(a:α):List (α×β)->Option (Nat×β)
 | []=>none
 |(k,v)::r=>if a=k then some (0,v)else(ixA a r).map fun p=>(p.1+1,p.2)
def getA(a:α):List (α×β)->Option β
 | []=>none
 |(k,v)::r=>if a=k then some v else getA a r
def setA(a:α)(v:β):List (α×β)->List (α×β)
 | []=>[(a,v)]
 |(k,u)::r=>if a=k then(k,v)::r else(k,u)::setA a v r
theorem Z6X(a:α):∀l:List (α×β),(ixA a l).map Prod.snd=getA a l
 | []=>rfl
 |(k,v)::r=>by
  unfold ixA getA;split
  ·rfl
  ·rw[Option.map_map,<-Z6X a r];rfl
theorem Z16{a:α}{l:List (α×β)}(h:ixA a l=none):getA a l=none:=by rw[<-Z6X,h];rfl
theorem Ji{a:α}{l:List (α×β)}{i:Nat}{v:β}(h:ixA a l=some (i,v)):getA a l=some v:=by rw[<-Z6X,h];rfl
theorem JR(a b:α)(v:β):∀l:List (α×β),getA b (setA a v l)=if b=a then some v else getA b l
 | []=>by
   simp only[setA,getA]
 |(k,u)::r=>by
  unfold setA;by_cases h:a=k
  ·subst h;rw[if_pos rfl];simp only[getA];by_cases e:b=a
   ·rw[if_pos e,if_pos e]
   ·rw[if_neg e,if_neg e,if_neg e]
  ·rw[if_neg h];simp only[getA,JR a b v r];by_cases e:b=k
   ·subst e;rw[if_pos rfl,if_neg (fun e=>h e.symm),if_pos rfl]
   ·rw[if_neg e,if_neg e]
theorem Z01(f:β->SV)(a:α):∀(l:List (α×β)) (i:Nat),YM K.ks (K.enc a) i (VV K f l)=(ixA a l).map fun p=>(i+p.1,f p.2)
 | [],i=>rfl
 |(k,v)::r,i=>by
  have ih:=Z01 f a r (i+1);simp only[VV,List.map_cons,YM,K.is,ixA]at ih⊢;by_cases h:a=k
  ·simp[h]
  ·simp only[h,decide_false,if_false,ih,Option.map_map];congr 1;funext p;simp only[Function.comp,Prod.mk.injEq,and_true];omega
theorem YK(f:β->SV)(l:List (α×β)):V4 K.ks (VV K f l):=by
 intro r hr;obtain⟨p,_,rfl⟩:=List.mem_map.1 hr;exact⟨_,_,rfl,K.ok _⟩
theorem Z3y{a:α}{v:β}:∀{l:List (α×β)} {i:Nat} {u:β},ixA a l=some (i,u)->setA a v l=l.modify i (fun p=>(p.1,v))
 | [],_,_,h=>by cases h
 |(k,w)::r,i,u,h=>by
  unfold ixA at h;unfold setA;split at h
  ·rename_i e;injection h with h;injection h with h1 h2;subst h1;rw[if_pos e,List.modify_zero_cons]
  ·rename_i e;obtain⟨⟨j,x⟩,hj,he⟩:=Option.map_eq_some_iff.1 h;injection he with h1 h2;subst h1;rw[if_neg e,List.modify_succ_cons,Z3y hj]
theorem Wv{a:α}{v:β}:∀{l:List (α×β)},ixA a l=none->setA a v l=l++ [(a,v)]
 | [],_=>rfl
 |(k,w)::r,h=>by
  unfold ixA at h;unfold setA;split at h
  ·cases h
  ·rename_i e;rw[if_neg e,List.cons_append,Wv (by simpa using h)]
theorem ZaH(f:β->SV)(a:α)(v:β)(l:List (α×β)):setM K.ks (K.enc a) (f v) (VV K f l)=VV K f (setA a v l):=by
 unfold setM;rw[Z01];cases h:ixA a l with
 |none=>simp only[Option.map_none];rw[Wv h];simp[VV]
 |some p=>
  obtain⟨i,u⟩:=p;simp only[Option.map_some,Nat.zero_add];rw[Z3y h];unfold VV;apply List.ext_getElem?;intro j;rw[List.getElem?_modify,List.getElem?_map,List.getElem?_map,List.getElem?_modify];by_cases e:i=j
  ·subst e;cases l[i]?<;>simp[putV]
  ·cases l[j]?<;>simp[e]
theorem Z6Y(f:β->SV)(hf:∀b,plain (f b)=true)(l:List (α×β)):Zn (VV K f l)=true:=by
 unfold VV;exact Yb _ (fun p=>by simp only[YB,K.pl,hf,Bool.and_self]) l
theorem Z6Z(es:Nat)(f:β->List (List SV))(a:α):∀(l:List (α×β)) (i:Nat),findD K.ks (K.enc a) i (Z3x K es f l)=(ixA a l).map fun p=>(i+p.1, .kid es (f p.2))
 | [],i=>rfl
 |(k,v)::r,i=>by
  have ih:=Z6Z es f a r (i+1);simp only[Z3x,List.map_cons,findD,Ya,K.is,ixA]at ih⊢;by_cases h:a=k
  ·simp[h]
  ·simp only[h,decide_false,if_false,ih,Option.map_map];congr 1;funext p;simp only[Function.comp,Prod.mk.injEq,and_true];omega
theorem Z70{a:α}:∀{l:List (α×β)} {i:Nat} {u:β},ixA a l=some (i,u)->l[i]?=some (a,u)
 | [],i,u,h=>by cases h
 |(k,w)::l,i,u,h=>by
  unfold ixA at h;split at h
  ·rename_i e;injection h with h;injection h with h1 h2;subst h1 h2 e
   rfl
  ·obtain⟨⟨j,x⟩,hj,he⟩:=Option.map_eq_some_iff.1 h;injection he with h1 h2;subst h1 h2;simpa using Z70 hj
theorem Z87(es:Nat)(f:β->List (List SV))(hf:∀b,Zn (f b)=true):∀l:List (α×β),ZF (Z3x K es f l)=true
 | []=>rfl
 |p::l=>by
  have ih:=Z87 es f hf l;unfold Z3x at ih⊢;simp only[List.map_cons,ZF,YL,VD,K.pl,hf,ih,Bool.and_self]
end
section
variable {α β:Type}[DecidableEq α]
theorem FIND.A(K:KeyK α)(f:β->SV)(a:α)(l:List (α×β)){J:Type}{A:Nat->SV->J->Prop}{B:J->Prop}{j:J}(hs:∀i v,ixA a l=some (i,v)->A (0+i) (f v) j)(hn:ixA a l=none->B j):FIND (YM K.ks (K.enc a) 0 (VV K f l)) A B j:=by
 refine FIND.mk (fun i v hf=>?_) (fun hf=>?_)
 ·obtain⟨⟨k,x⟩,hj,he⟩:=Option.map_eq_some_iff.1 ((Z01 K f a l 0).symm.trans hf);cases he
  exact hs _ _ hj
 ·exact hn (Option.map_eq_none_iff.1 ((Z01 K f a l 0).symm.trans hf))
theorem FINDD.A(K:KeyK α)(es:Nat)(f:β->List (List SV))(a:α)(l:List (α×β)){J:Type}{A:Nat->DC->J->Prop}{B:J->Prop}{j:J}(hs:∀i v,ixA a l=some (i,v)->A (0+i) (.kid es (f v)) j)(hn:ixA a l=none->B j):FINDD (findD K.ks (K.enc a) 0 (Z3x K es f l)) A B j:=by
 refine FINDD.mk (fun i v hf=>?_) (fun hf=>?_)
 ·obtain⟨⟨k,x⟩,hj,he⟩:=Option.map_eq_some_iff.1 ((Z6Z K es f a l 0).symm.trans hf);cases he
  exact hs _ _ hj
 ·exact hn (Option.map_eq_none_iff.1 ((Z6Z K es f a l 0).symm.trans hf))
end
def KQ:KeyK Qd where
 ks:=(true,[.int .i64, .str, .str, .str, .int .i64, .str, .str, .str, .int .i64, .str, .str, .str, .int .i64, .str, .str, .str])
 enc:=Qd.sv
 is a b:=by
  obtain⟨⟨a1,a2,a3,a4⟩,⟨a5,a6,a7,a8⟩,⟨a9,b1,b2,b3⟩,⟨b4,b5,b6,b7⟩⟩:=a;obtain⟨⟨c1,c2,c3,c4⟩,⟨c5,c6,c7,c8⟩,⟨c9,d1,d2,d3⟩,⟨d4,d5,d6,d7⟩⟩:=b;rw[Bool.eq_iff_iff];simp[W6,JY,ZY,Zg,Qd.sv,XW];simp only[and_assoc]
 ok a:=by simp[Jg,JY,ZY,Zg,Qd.sv,XW]
 pl a:=rfl
def KT:KeyK (List UInt8) where
 ks:=(false,[.str])
 enc:= .str
 is a b:=by rw[Bool.eq_iff_iff];simp[W6,JY,ZY,Zg]
 ok a:=by simp[Jg,JY,ZY,Zg]
 pl a:=rfl
abbrev LB:=List UInt8
def xsL(t:LB)(j:Nat):LB:=t++List.replicate j 120
theorem Z71(t:LB):xsL t 0=t:=by simp[xsL]
theorem Z72(t:LB)(j:Nat):xsL t (j+1)=xsL t j++ [120]:=by
 unfold xsL;rw[List.append_assoc,show [(120:UInt8)]=List.replicate 1 120 from rfl,List.replicate_append_replicate]
theorem ZaI(t:LB)(j:Nat):(xsL t j).length=t.length+j:=by simp[xsL]
theorem Zgi{t:LB}{i j:Nat}(h:xsL t i=xsL t j):i=j:=by
 have:=congrArg List.length h;rw[ZaI,ZaI]at this;omega
def ZcX(U:List LB)(t:LB):Nat->LB
 |0=>t
 |n+1=>if t∈U then ZcX U (t++ [120]) n else t
def Z4l(U:List LB)(t:LB):LB:=ZcX U t (U.length+1)
theorem Z88{α:Type}[DecidableEq α]:∀{l u:List α},l.Nodup->(∀x∈l,x∈u)->l.length<=u.length
 | [],u,_,_=>Nat.zero_le _
 |a::l,u,hn,hs=>by
  have ha:=hs a (List.mem_cons_self ..);have hn':=List.nodup_cons.1 hn;have:=Z88 (u:=u.erase a) hn'.2 (fun x hx=>(List.mem_erase_of_ne (fun(e:x=a)=>hn'.1 (by rw[<-e];exact hx))).2 (hs x (List.mem_cons_of_mem _ hx)));rw[List.length_erase_of_mem ha]at this;have:=List.length_pos_of_mem ha;simp only[List.length_cons];omega
theorem Z4m{U:List LB}{t:LB}{j:Nat}(h:∀i,i<j->xsL t i∈U):j<=U.length:=by
 have hn:((List.range j).map (xsL t)).Nodup:=by
  rw[List.nodup_iff_pairwise_ne,List.pairwise_map];exact List.nodup_range.imp fun hab e=>hab (Zgi e)
 have:=Z88 (u:=U) hn fun x hx=>by
  obtain⟨i,hi,rfl⟩:=List.mem_map.1 hx;exact h i (List.mem_range.1 hi)
 simpa using this
theorem ZaJ{U:List LB}{t:LB}:∀(n i j:Nat),j-i<=n->i<=j->(∀k,i<=k->k<j->xsL t k∈U)->xsL t j∉U->ZcX U (xsL t i) n=xsL t j
 |0,i,j,h1,h2,_,_=>by rw[show i=j by omega];rfl
 |n+1,i,j,h1,h2,h,hj=>by
  unfold ZcX;rcases Nat.lt_or_eq_of_le h2 with h3|rfl
  ·rw[if_pos (h i (Nat.le_refl _) h3),<-Z72];exact ZaJ n (i+1) j (by omega) (by omega) (fun k hk=>h k (by omega)) hj
  ·rw[if_neg hj]
theorem ZaK{U:List LB}{t:LB}{j:Nat}(h:∀i,i<j->xsL t i∈U)(hj:xsL t j∉U):Z4l U t=xsL t j:=by
 have hl:=Z4m h;have:=ZaJ (t:=t) (U.length+1) 0 j (by omega) (by omega) (fun k _ hk=>h k hk) hj;rwa [Z71]at this
theorem Zf3(U:List LB)(t:LB):∃j,(∀i,i<j->xsL t i∈U)/\xsL t j∉U:=by
 have key:∀n j,U.length+1-j<=n->(∀i,i<j->xsL t i∈U)->∃j,(∀i,i<j->xsL t i∈U)/\xsL t j∉U:=by
  intro n
  induction n with
  |zero=>intro j h1 h2;have:=Z4m h2;omega
  |succ n ih=>
   intro j h1 h2;by_cases h:xsL t j∈U
   ·refine ih (j+1) (by omega) fun i hi=>?_;rcases Nat.lt_or_eq_of_le (Nat.le_of_lt_succ hi)with h3|rfl
    ·exact h2 i h3
    ·exact h
   ·exact⟨j,h2,h⟩
 exact key _ 0 (Nat.le_refl _) fun i hi=>by omega
def Ww:List LB->List LB->List (LB×LB)->Option (List (LB×LB))
 | [],_,ps=>some ps
 |x::own,U,ps=>if 65536< (Z4l U (x++ [120])).length then none else Ww own (U++ [Z4l U (x++ [120])]) (ps++ [(x,Z4l U (x++ [120]))])
def ownB(A B:List LB):List LB:=B.filter fun x=>decide (x∈A)
def Z5F(A B:List LB):Option (List (LB×LB)):=Ww (ownB A B) (A++B) []
theorem Z8X{own U:List LB}{ps:List (LB×LB)}{i:Nat}(h:i<own.length):Ww (own.drop i) U ps=if 65536< (Z4l U (own[i]++ [120])).length then none else Ww (own.drop (i+1)) (U++ [Z4l U (own[i]++ [120])]) (ps++ [(own[i],Z4l U (own[i]++ [120]))]):=by
 rw[List.drop_eq_getElem_cons h]
 rfl
theorem ZaL{own U:List LB}{ps:List (LB×LB)}:Ww (own.drop own.length) U ps=some ps:=by rw[List.drop_length];rfl
theorem Z5G{A B:List LB}{i:Nat}(h:i<B.length):ownB A (B.take (i+1))=if B[i]∈A then ownB A (B.take i)++ [B[i]]else ownB A (B.take i):=by
 unfold ownB;rw[List.take_succ_eq_append_getElem h,List.filter_append,List.filter_cons,List.filter_nil];by_cases e:B[i]∈A<;>simp[e]
end Go.Our
namespace Go.Our
open Go Go.Sx
structure Sd where
 q:Qd
 a:Int
 b:Int
 c:Int
 d:Int
def VW(s:Sd):List SV:=[.int .i64 s.q.s.k, .str s.q.s.t, .str s.q.s.y, .str s.q.s.l, .int .i64 s.q.p.k, .str s.q.p.t, .str s.q.p.y, .str s.q.p.l, .int .i64 s.q.o.k, .str s.q.o.t, .str s.q.o.y, .str s.q.o.l, .int .i64 s.q.g.k, .str s.q.g.t, .str s.q.g.y, .str s.q.g.l,
 .int .i64 s.a, .int .i64 s.b, .int .i64 s.c, .int .i64 s.d]
theorem Zf4(l:List Sd):Zn (l.map VW)=true:=Yb _ (fun _=>rfl) l
instance :PlF VW:=⟨fun _=>rfl⟩
theorem ZcY{l:List Sd}{i:Nat}(h:i<l.length):(l.map VW)[i]?=some (VW l[i]):=by rw[List.getElem?_map,List.getElem?_eq_getElem h];rfl
def ZaM(l:List Sd):List DC:=[.kid 20 (l.map VW)]
def inD(ins:List (List Sd)):List (List DC):=ins.map ZaM
theorem ZaN:∀ins:List (List Sd),ZF (inD ins)=true
 | []=>rfl
 |l::ins=>by simp only[inD,List.map_cons,ZaM,ZF,YL,VD,Zf4,Bool.and_self,Bool.true_and];exact ZaN ins
instance {ins:List (List Sd)}:PlD (inD ins):=⟨ZaN ins⟩
theorem Z3z{ins:List (List Sd)}{i:Nat}(h:i<ins.length):(inD ins)[i]?=some (ZaM ins[i]):=by unfold inD;rw[List.getElem?_map,List.getElem?_eq_getElem h];rfl
theorem Z73(ins:List (List Sd)):(inD ins).length=ins.length:=by simp[inD]
def numM(f:LB->Int)(t:Tm):Int:=if t.k=2 then f t.t else-1
def sdM(f:LB->Int)(q:Qd):Sd:=⟨q,numM f q.s,numM f q.p,numM f q.o,numM f q.g⟩
def Zw(q:Qd):List Tm:=[q.s,q.p,q.o,q.g]
def ownT(f:LB->Int)(acc:List Int)(t:Tm):List Int:=if t.k=2 then(if f t.t∈acc then acc else acc++ [f t.t])else acc
def ownM(f:LB->Int)(q:Qd):List Int:=(Zw q).foldl (ownT f) []
def putN(s:Sd)(ins:List (List Sd))(n:Int):List (List Sd):=ins.modify n.toNat (· ++ [s])
def putS(f:LB->Int)(ins:List (List Sd))(q:Qd):List (List Sd):=(ownM f q).foldl (putN (sdM f q)) ins
theorem Z89(s:Sd)(ins:List (List Sd))(n:Int):(putN s ins n).length=ins.length:=by unfold putN;rw[List.length_modify]
theorem Z17(s:Sd):∀(l:List Int) (ins:List (List Sd)),(l.foldl (putN s) ins).length=ins.length
 | [],_=>rfl
 |n::l,ins=>by rw[List.foldl_cons,Z17 s l,Z89]
theorem Z8a(f:LB->Int)(ins:List (List Sd))(q:Qd):(putS f ins q).length=ins.length:=Z17 _ _ _
theorem ZaO(f:LB->Int)(q:Qd):(ownM f q).length<=4:=by
 have step:∀acc t,(ownT f acc t).length<=acc.length+1:=fun acc t=>by
  unfold ownT;split
  ·split<;>simp
  ·simp
 unfold ownM Zw;simp only[List.foldl_cons,List.foldl_nil];have h1:=step [] q.s;have h2:=step (ownT f [] q.s) q.p;have h3:=step (ownT f (ownT f [] q.s) q.p) q.o;have h4:=step (ownT f (ownT f (ownT f [] q.s) q.p) q.o) q.g;simp only[List.length_nil]at h1;omega
def Wx(n:Nat)(l:List Int):Prop:=∀x∈l,0<=x/\x< (n:Int)
theorem Zgj{f:LB->Int}{n:Nat}{q:Qd}(h:∀x∈YA q,0<=f x/\f x< (n:Int)):Wx n (ownM f q):=by
 have step:∀acc t,(t.k=2->0<=f t.t/\f t.t< (n:Int))->Wx n acc->Wx n (ownT f acc t):=fun acc t ht ha=>by
  unfold ownT;split
  ·rename_i hk;split
   ·exact ha
   ·intro x hx;rcases List.mem_append.1 hx with hx|hx
    ·exact ha x hx
    ·rw[List.mem_singleton.1 hx];exact ht hk
  ·exact ha
 have ht:∀t∈Zw q,t.k=2->0<=f t.t/\f t.t< (n:Int):=fun t htm hk=>h _ (by
  have hb:t.t∈Ym t:=by unfold Ym;rw[if_pos hk];exact List.mem_singleton_self _
  unfold Zw at htm;unfold YA;simp only[List.mem_cons,List.not_mem_nil,or_false]at htm;simp only[List.mem_append];rcases htm with rfl|rfl|rfl|rfl
  ·exact .inl (.inl (.inl hb))
  ·exact .inl (.inl (.inr hb))
  ·exact .inl (.inr hb)
  ·exact .inr hb)
 unfold ownM
 have all:∀(l:List Tm) (acc:List Int),(∀t∈l,t.k=2->0<=f t.t/\f t.t< (n:Int))->Wx n acc->Wx n (l.foldl (ownT f) acc):=by
  intro l
  induction l with
  |nil=>intro acc _ h;exact h
  |cons t l ih=>intro acc hl ha;exact ih _ (fun t ht=>hl t (List.mem_cons_of_mem _ ht)) (step acc t (hl t (List.mem_cons_self ..)) ha)
 exact all _ _ ht (fun x hx=>by cases hx)
theorem Jp{α β:Type}(g:β->α->β)(b:β)(l:List α){i:Nat}(h:i<l.length):(l.take (i+1)).foldl g b=g ((l.take i).foldl g b) l[i]:=by
 rw[List.take_succ_eq_append_getElem h,List.foldl_append];rfl
end Go.Our
namespace Go.Sx
open Go Go.Sort Go.Shelf Go.Proofs
theorem HeapOK.later{M:Mx}{η:Env}{w w':World}{O:Hps}{nx:Nat}(H:HeapOK M η w O nx)(hf:FrW w w' fun _=>False):HeapOK M η w' O nx:=by
 have hk:∀{i h},lkp i O=some h->∀k,feet η w (.loc i) h k->w'.heap[k]?=w.heap[k]?:=fun hi k f=>hf.block k ((H.own.1 _ _ hi).1.feet_lt f) (fun h=>h);have hb:∀{i h},lkp i O=some h->∀k,feet η w' (.loc i) h k->feet η w (.loc i) h k:=fun hi k f=>H.stands List.prefix_rfl hi (hk hi) f;exact⟨H.pre,H.len,⟨fun i h hi=>⟨(H.own.1 i h hi).1.keep (hk hi),fun k f=>(H.own.1 i h hi).2 k (hb hi k f)⟩,fun i j h h' k hi hj hij f f'=>H.own.2 i j h h' k hi hj hij (hb hi k f) (hb hj k f')⟩,H.fr.trans hf (fun n h=>h.elim),H.sok⟩
theorem FrW.grown{w w':World}(h:FrW w w' fun _=>False):∃q os,w'=grow (w.drewN q) os:=by
 refine⟨w'.drawn-w.drawn,w'.heap.extract w.heap.size,?_⟩;have hd:=h.drawn
 have e1:w'.heap=w.heap++w'.heap.extract w.heap.size:=by
  apply Array.ext_getElem?;intro k;rcases Nat.lt_or_ge k w.heap.size with hk|hk
  ·rw[Array.getElem?_append_left hk];exact h.block k hk (fun x=>x)
  ·rw[Array.getElem?_append_right hk,Array.getElem?_extract];simp only[Nat.min_self];split
   ·rw[show w.heap.size+(k-w.heap.size)=k by omega]
   ·rename_i hn;exact Array.getElem?_eq_none (by omega)
 obtain⟨heap,tape,drawn,os,output⟩:=w;obtain⟨heap',tape',drawn',os',output'⟩:=w';have h1:=h.os;have h2:=h.tape;have h3:=h.output;simp only at h1 h2 h3 hd e1;subst h1 h2 h3;simp only[grow,World.drewN];rw[<-e1];congr 1;omega
section
variable {α:Type}[Inhabited α](enc:α->List Value)(k:Nat)
theorem JB(w:World)(blk off m:Nat)(dk:Array α)(os:Array Obj):(sortWorldK enc k w blk off m dk os).heap=(mapBlock w blk (putCells id off (flatK enc k dk))).heap++os:=by
 simp[sortWorldK,grow,putRowK,putRow,mapBlock,Sort.ahead]
theorem VX(w:World)(blk off m:Nat)(dk:Array α)(os:Array Obj):w.heap.size<=(sortWorldK enc k w blk off m dk os).heap.size:=by
 rw[JB];simp[mapBlock]
theorem VF(w:World)(blk off m:Nat)(dk:Array α)(os:Array Obj){g:Nat}(hg:g<w.heap.size)(hne:g≠blk):(sortWorldK enc k w blk off m dk os).heap[g]?=w.heap[g]?:=by
 rw[JB,Array.getElem?_append_left (by simpa[mapBlock]using hg)];simp only[mapBlock,Array.getElem?_modify];rw[if_neg (fun h=>hne h.symm)]
theorem Z2X(w:World)(blk off m:Nat)(dk:Array α)(os:Array Obj){c:Array Value}{T:TypeId}{fz:Nat×Nat}(h:w.heap[blk]?=some (.cells c T fz)):(sortWorldK enc k w blk off m dk os).heap[blk]?=some (.cells (putCells id off (flatK enc k dk) c) T fz):=by
 have hlt:=(Array.getElem?_eq_some_iff.1 h).1;rw[JB,Array.getElem?_append_left (by simpa[mapBlock]using hlt)];simp only[mapBlock,Array.getElem?_modify,if_true,h,Option.map_eq_map,Option.map_some,onCells]
end
theorem ZaS{w:World}{g i:Nat}{c:Array Value}{T:TypeId}{fz:Nat×Nat}(h:w.heap[g]?=some (.cells c T fz)):w.cell? ⟨g,i,none⟩=c[i]?:=by simp[World.cell?,h]
theorem Z8Z{P:Program}{T:Tab}{α:Type}[Inhabited α]{enc:α->List Value}{k:Nat}{row:α->List SV}{g:FuncId}{cf:α->α->Int}{blk off size:Nat}{w:World}(hlone:T.globs.all (fun p=>Z6G p.2)=true)(hblk:∀h,lkp blk T.globs≠some h)
 (hc:∀x y,Does P T g 0 [.agg (row x), .agg (row y)] [] [] (Val (.int .i64 (cf x y)))) (eg:∀args w,(callFunc g args).run P w= .ok (.enter g args) w)
 (hrow:∀η x,DenL η (row x) (enc x)/\∀u∈enc x,u.oneCell'=true) (hg:∀g h,lkp g T.globs=some h->HpSat [] w false (.glob g) h/\g<w.heap.size):CmpLays P g #[] enc k cf blk off size w:=by
 intro m os dk hdk x y
 have hg':∀g h,lkp g T.globs=some h->HpSat [] (sortWorldK enc k w blk off m dk os) false (.glob g) h/\g< (sortWorldK enc k w blk off m dk os).heap.size:=by
  intro g' h hh;obtain⟨h1,h2⟩:=hg g' h hh;have hne:g'≠blk:=fun e=>hblk h (e▸hh);refine⟨h1.keep fun n f=>?_,Nat.lt_of_lt_of_le h2 (VX enc k w blk off m dk os)⟩;have hlt:=h1.feet_lt f;obtain⟨e,he,hf⟩:=f;cases he
  rcases hf with rfl|hf
  ·exact VF enc k w blk off m dk os hlt hne
  ·exact(Wa (List.all_eq_true.1 hlone _ (VP hh)) hf).elim
 have:=Does.calls (hc x y) eg (vs:=[.agg (enc x).toArray, .agg (enc y).toArray]) (w:=sortWorldK enc k w blk off m dk os) (by
  simp only[DenL,Den]
  exact⟨_,_,rfl,⟨_,rfl,(hrow [] x).1,(hrow [] x).2⟩,_,_,rfl,⟨_,rfl,(hrow [] y).1,(hrow [] y).2⟩,rfl⟩) hg'
 refine this.mono ?_;rintro e w' ⟨v,rfl,hv,hf⟩;simp only[Den]at hv;subst hv;exact⟨rfl,hf.grown⟩
theorem Z3B{α:Type}[Inhabited α]{enc:α->List Value}{k:Nat}(hk:∀x,(enc x).length=k){l:List α}{i j:Nat}{x:α}(hi:l[i]?=some x)(hj:j<k):(flatK enc k l.toArray)[i*k+j]! =(enc x)[j]!/\i*k+j<l.length*k:=by
 have hil:=(List.getElem?_eq_some_iff.1 hi).1
 have hlt:i*k+j<l.length*k:=by
  have:(i+1)*k<=l.length*k:=Nat.mul_le_mul_right k hil;rw[Nat.succ_mul]at this;omega
 refine⟨?_,hlt⟩;rw[get_flatK _ _ _ _ (by simpa using hlt)];have h1:(i*k+j)/k=i:=by rw[Nat.mul_comm,Nat.mul_add_div (by omega),Nat.div_eq_of_lt hj,Nat.add_zero]
 have h2:(i*k+j)%k=j:=by rw[Nat.mul_comm,Nat.mul_add_mod];exact Nat.mod_eq_of_lt hj
 rw[h1,h2];congr 1;have:=(List.getElem?_eq_some_iff.1 hi).2;simp[hil,this]
theorem Z4n{P:Program}{T:Tab}{ρ:Ren}{α:Type}[Inhabited α](hT:TabOK P T)(L:SlLaysF0.n6 P ρ)(L':SlLaysF0.n6 P ρ){enc:α->List Value}{k:Nat}{row:α->List SV}{g:FuncId}{cf:α->α->Int}
 (aE:∀w,(isAgg (ρ.t 24)).run P w= .ok true w) (zE:∀w,(Go.sizeOf (ρ.t 24)).run P w= .ok k w) (hk:∀x,(enc x).length=k/\(row x).length=k) (hk0:0<k) (hO:SWO (ltOf cf)) (hTo:∀x y,(ltOf cf) x y=false->(ltOf cf) y x=false->x=y)
 (hlone:T.globs.all (fun p=>Z6G p.2)=true) (hc:∀x y,Does P T g 0 [.agg (row x), .agg (row y)] [] [] (Val (.int .i64 (cf x y)))) (eg:∀args w,(callFunc g args).run P w= .ok (.enter g args) w) (ef:∀args w,(callFunc (ρ.f 6) args).run P w= .ok (.enter (ρ.f 6) args) w)
 (hrow:∀η x,DenL η (row x) (enc x)/\∀u∈enc x,u.oneCell'=true) (hrow':∀η x vs,DenL η (row x) vs->vs=enc x) (l:List α) (hl:l.length<4611686018427387904):
 Does P T (ρ.f 6) 1 [.sl (.loc 0) 0 k l.length none, .fn (.func g) [] []] [(0, .rows k (l.map row))] [] (fun r O nx=>r= .tup []/\O=[(0, .rows k ((l.mergeSort fun x y=>!(ltOf cf) y x).map row))]/\nx=1):=by
 refine⟨fun M vs hP hT' hF hS H hd=> .inl ⟨ρ.f 6,by rw[hP];exact ef _ _,?_⟩⟩;obtain⟨P',⟨T',N',S',ro'⟩,w0,F,η0,px'⟩:=M;simp only at hP hT' hF hS H hd⊢;subst hP hT';simp only[DenL]at hd;obtain⟨v,us,rfl,hv,f,us',rfl,hf,rfl⟩:=hd;simp only[Den]at hf;obtain⟨ff,fc,rfl,hff,hfc⟩:=hf;simp only[DenL]at hff hfc;subst hff hfc;have hsat:=(H.own.1 0 _ rfl).1
 have hgl:∀g h,lkp g T'.globs=some h->HpSat [] w0 false (.glob g) h/\g<w0.heap.size:=by
  intro g' h hh;have hp:JJ h=true:=List.all_eq_true.1 T'.gplain _ (VP hh);have h1:=H.shared (b:= .glob g') hh;refine⟨h1.plain hp,h1.feet_lt ⟨⟨g',0,0⟩,rfl, .inl rfl⟩⟩
 simp only[HpSat,Env.get]at hsat;simp only[Den,Env.get]at hv
 have fin:∀w' (O':Hps),FrW w0 w' F->HpSat η0 w' true (.loc 0) (.rows k ((l.mergeSort fun x y=>!(ltOf cf) y x).map row))->
  ∃r O' nx' η',(r=SV.tup []/\O'=[(0,Hp.rows k ((l.mergeSort fun x y=>!(ltOf cf) y x).map row))]/\nx'=1)/\η0<+:η'/\HeapOK ⟨P',⟨T',N',S',ro'⟩,w0,F,η0,px'⟩ η' w' O' nx'/\Den η' r (.tuple #[]):=by
  intro w' O' hfr hs;refine⟨_,_,_,η0,⟨rfl,rfl,rfl⟩,List.prefix_rfl,⟨H.pre,H.len,⟨fun i h hi=>?_,fun i j h h' k hi hj hij f f'=>?_⟩,hfr,H.sok⟩,?_⟩
  ·rw[Z8]at hi;split at hi
   ·rename_i e;subst e;injection hi with hi;subst hi;refine⟨hs,fun n f=>(H.own.1 0 _ rfl).2 n ?_⟩;obtain⟨e,h1,h2⟩:=f;exact⟨e,h1,h2⟩
   ·simp[lkp]at hi
  ·rw[Z8]at hi hj;split at hi
   ·rename_i e;subst e;split at hj
    ·rename_i e2;exact(hij e2.symm).elim
    ·simp[lkp]at hj
   ·simp[lkp]at hi
  ·simp only[Den,DenL];exact⟨[],rfl,rfl⟩
 rcases hsat with⟨hn,hnil⟩|⟨e,arr,Tt,fz,he,hheap,hown,hcells⟩
 ·
  have hl0:l=[]:=by simpa using hnil
  subst hl0
  have hv2:v= .slice none 0 0:=by
   rcases hv with⟨_,h,_⟩|⟨e,o,h,_⟩
   ·exact h
   ·rw[hn]at h;cases h
  subst hv2;refine(AnyF.slices_SortFunc_none L' none 0 _ w0).mono ?_;rintro e w' ⟨rfl,rfl⟩;refine⟨_,rfl,fin _ [] (FrW.refl _ _) ?_⟩;simp only[HpSat,Env.get];exact .inl ⟨hn,by simp⟩
 ·obtain⟨hun,hsz,hle,hb0⟩:=hown trivial
  obtain⟨hel,hvv⟩:l.length<=e.cap/\v= .slice (some ⟨e.g,0,none⟩) l.length e.cap:=by
   rcases hv with⟨h,_⟩|⟨e',o,h,h2,h3,h4,h5⟩
   ·rw[he]at h;cases h
   ·rw[he]at h;cases h;simp only[Option.getD_none,Nat.zero_add,Nat.sub_zero]at h2 h3;have:=h5 (.inr trivial);rw[hb0]at this;simp only[Nat.zero_mul,Nat.add_zero]at this;subst this;exact⟨h3,h2⟩
  subst hvv;have hblk:e.g<w0.heap.size:=(Array.getElem?_eq_some_iff.1 hheap).1
  have hcell:∀(i:Nat) (x:α) (j:Nat),l[i]?=some x->j<k->arr[i*k+j]?=some (enc x)[j]!:=by
   intro i x j hi hj;obtain⟨h1,h2⟩:=hcells i (row x) (by rw[List.getElem?_map,hi];rfl);have hlen:=(hk x).2;have hen:=(hk x).1
   have hall:∀(j:Nat) (c:SV),(row x)[j]?=some c->∃u,((List.range k).map fun j=>arr.getD (i*k+j) undef)[j]?=some u/\Den η0 c u:=by
    intro j c hj;have hjk:j<k:=by have:=(List.getElem?_eq_some_iff.1 hj).1;omega
    obtain⟨u,h3,h4,h5⟩:=h2 j c hj;rw[hb0,Nat.zero_add]at h3;refine⟨u,?_,h5⟩;rw[List.getElem?_map,List.getElem?_range hjk];simp only[Option.map_some,Array.getD_eq_getD_getElem?,h3,Option.getD_some]
   have hvs:=hrow' η0 x _ (UR (by simp[hlen]) hall);have hjr:j< (row x).length:=by omega
   obtain⟨u,h3,h4,h5⟩:=h2 j ((row x)[j]) (List.getElem?_eq_getElem hjr);rw[hb0,Nat.zero_add]at h3
   have h6:(enc x)[j]! =u:=by
    rw[<-hvs]
    have:((List.range k).map fun j=>arr.getD (i*k+j) undef)[j]?=some u:=by
     rw[List.getElem?_map,List.getElem?_range hj];simp only[Option.map_some,Array.getD_eq_getD_getElem?,h3,Option.getD_some]
    rw[List.getElem!_eq_getElem?_getD,this];rfl
   rw[h3,h6]
  have split:∀t,t<l.length*k->∃x,l[t/k]?=some x/\t%k<k/\t/k*k+t%k=t:=by
   intro t ht;have h1:t/k<l.length:=Nat.div_lt_of_lt_mul (by rw[Nat.mul_comm];exact ht);exact⟨l[t/k],List.getElem?_eq_getElem h1,Nat.mod_lt _ hk0,by rw[Nat.mul_comm];exact Nat.div_add_mod t k⟩
  have hsize:l.length*k<=arr.size:=by rw[hsz];exact Nat.mul_le_mul_right _ hel
  have hH:HoldsK enc k w0 e.g 0 l.toArray:=by
   intro t ht;rw[size_flatK,List.size_toArray]at ht;obtain⟨x,h1,h2,h3⟩:=split t ht;have h4:=hcell _ x _ h1 h2;have h5:=(Z3B (enc:=enc) (fun x=>(hk x).1) h1 h2).1;rw[h3]at h4 h5;refine⟨by rw[Nat.zero_add,ZaS hheap,h4,h5];rfl,?_⟩;have:=hun t (by omega);simp only[World.frozen?,hheap,Nat.zero_add];simpa using this
  have hFg:F e.g:=by
   rcases(H.own.1 0 _ rfl).2 e.g ⟨e,he, .inl rfl⟩with h|h
   ·exact h
   ·have h:w0.heap.size<=e.g:=h;omega
  have hcl:CmpLays P' g #[] enc k cf e.g 0 l.toArray.size w0:=Z8Z hlone (fun h hh=>(H.sok (.glob e.g) h hh).2 e.g ⟨⟨e.g,0,0⟩,rfl, .inl rfl⟩|>.2 hFg) hc eg (fun η x=>hrow η x) hgl;have hmain:=AnyQ.slices_SortFunc_total L k aE zE enc (fun x=>(hk x).1) (fun x u hu=>(hrow [] x).2 u hu) cf hO g #[] e.g 0 e.cap l.toArray w0 eg hcl hH hblk (by simpa using hl) hTo;rw[List.size_toArray]at hmain;refine hmain.mono ?_;rintro e1 w' ⟨rfl,n,os,rfl⟩;refine⟨_,rfl,fin _ [] ?_ ?_⟩
  ·refine⟨rfl,rfl,rfl,?_,VX ..,fun b hb hnF=>VF enc k w0 e.g 0 n _ os hb (fun e=>hnF (e▸hFg))⟩;simp[sortWorldK,grow,putRowK,putRow,mapBlock,Sort.ahead]
  ·simp only[HpSat,Env.get];have hsl:(l.mergeSort fun x y=>!(ltOf cf) y x).length=l.length:=List.length_mergeSort l;refine .inr ⟨e,_,Tt,fz,he,Z2X enc k w0 e.g 0 n _ os hheap,fun _=>⟨?_,?_,?_,hb0⟩,fun i rw1 hi=>?_⟩
   ·simp only[putCells,Array.size_mapIdx];exact hun
   ·simp only[putCells,Array.size_mapIdx];exact hsz
   ·rw[List.length_map,hsl];exact hel
   ·rw[List.getElem?_map]at hi;obtain⟨x,hx,rfl⟩:=Option.map_eq_some_iff.1 hi;refine⟨(hk x).2,fun j sv hj=>?_⟩;have hjk:j<k:=by have:=(List.getElem?_eq_some_iff.1 hj).1;have:=(hk x).2;omega
    obtain⟨h5,h6⟩:=Z3B (enc:=enc) (fun x=>(hk x).1) hx hjk;rw[hsl]at h6;obtain⟨u,h7,h8⟩:=Xd (hrow η0 x).1 hj;refine⟨u,?_,(hrow η0 x).2 u (List.mem_of_getElem? h7),h8⟩;have hlt:i*k+j<arr.size:=by omega
    rw[hb0,Nat.zero_add];simp only[putCells,Array.getElem?_mapIdx,Array.getElem?_eq_getElem hlt,Option.map_some,Nat.zero_le,true_and,Nat.zero_add,size_flatK,List.size_toArray,hsl,h6,if_true,Nat.sub_zero];rw[h5,List.getElem!_eq_getElem?_getD,h7]
    rfl
end Go.Sx
namespace Go.Sx
open Go
def Mx.at(M:Mx)(N:Nat)(ro:Option (Nat×Nat))(η:Env):Mx:=⟨M.P,⟨M.C.T,N,M.C.S,ro⟩,M.w0,M.F,η,none⟩
def endI(M:Mx)(res:List ResultVar)(K:SV->Hps->Nat->Prop):Post
 | .normal,fr,O,nx=>Z2S fr O fun O=>Uz M.C fr O res fun vs=>K (Z2R vs) O nx
 | .ret,fr,O,nx=>Z2S fr O fun O=>Uz M.C fr O res fun vs=>K (Z2R vs) O nx
 | .exit _,_,_,_=>STOP "exit"
def ZaT:List Nat->List SV->Fr->(Fr->Prop)->Prop
 | [],ags,fr,K=>match ags with
   | []=>match Z6L (lkp DS fr)with
     |true=>STOP "round"
     |false=>K fr
   |_::_=>STOP "round"
 |p::ps,ags,fr,K=>match ags with
  |a::ags=>ZaT ps ags ((p,a)::fr) K
  | []=>STOP "round"
def ZaU(j:Nat)(K:SV->Hps->Nat->Prop):Post:=fun e fr O nx=>match lkp j O with
 |some h=>match h with
  | .lp st li fr0=>match st with
    | .busy=>match e with
      | .normal=>Z2Q j (.lp .ready li fr0) O fun O=>K (.bool true) O nx
      | .ret=>Z2Q j (.lp (.left none) li fr0) O fun O=>K (.bool false) O nx
      | .exit id=>Z2Q j (.lp (.left (some id)) li fr0) O fun O=>K (.bool false) O nx
    |_=>STOP "record"
  |_=>STOP "record"
 |none=>STOP "record"
def Zel(M:Mx)(j:Nat)(body:Code)(K:SV->Hps->Nat->Prop):Post:=fun e fr O nx=>match e with
 | .normal=>match lkp j O with
   |some h=>match h with
    | .lp st li fr0=>match st with
      | .ready=>Z2Q j (.lp .busy li fr0) O fun O=>run M body fr O nx (ZaU j K)
      |_=>STOP "record"
    |_=>STOP "record"
   |none=>STOP "record"
 |_=>STOP "assignment"
def noDS:Fr->(Fr->Prop)->Prop
 | [],K=>K []
 |(t,v)::r,K=>match Nat.beq t DS with
  |true=>noDS r K
  |false=>noDS r fun r=>K ((t,v)::r)
def ZcZ(fr:Fr)(d:Nat)(K:Fr->Prop):Prop:=match lkp DS fr with
 |some v=>match v with
  | .dfs l=>K ((DS, .dfs (.ptr (.loc d) 0 0 0::l))::fr)
  |_=>K ((DS, .dfs [.ptr (.loc d) 0 0 0])::fr)
 |none=>K ((DS, .dfs [.ptr (.loc d) 0 0 0])::fr)
def ZaV(j:Nat)(frK:(Fr->Prop)->Prop)(Q:Post):SV->Hps->Nat->Prop:=fun _ O nx=>match lkp j O with
 |some h=>match h with
  | .lp st _ _=>match st with
    | .ready=>Z1r j O fun O=>frK fun fr=>Q .normal fr O nx
    | .busy=>STOP "record"
    | .left jump=>match jump with
      |none=>Z1r j O fun O=>frK fun fr=>Q .ret fr O nx
      |some id=>Z1r j O fun O=>frK fun fr=>Q (.exit id) fr O nx
  |_=>STOP "record"
 |none=>STOP "record"
section
variable {M:Mx}{η:Env}{w:World}{O:Hps}{nx:Nat}
theorem SOK.longer(h:SOK M){η:Env}(hp:M.η0<+:η){N:Nat}{ro:Option (Nat×Nat)}:SOK (M.at N ro η):=by
 intro b hh hb;have hb':lkS M.C b=some hh:=by cases b<;>exact hb
 obtain⟨h1,h2⟩:=h b hh hb';obtain⟨x,hx,_⟩:=h1.lt;exact⟨h1.mono hp,fun k f=>h2 k (feet.less hp hx f)⟩
theorem HeapOK.at(H:HeapOK M η w O nx){N:Nat}{ro:Option (Nat×Nat)}:HeapOK (M.at N ro η) η w O nx:=⟨List.prefix_rfl,H.len,H.own,H.fr,H.sok.longer H.pre⟩
theorem HeapOK.back{η0:Env}{N:Nat}{ro:Option (Nat×Nat)}(H:HeapOK (M.at N ro η0) η w O nx)(hp:M.η0<+:η0)(hs:SOK M):HeapOK M η w O nx:=⟨hp.trans H.pre,H.len,H.own,H.fr,hs⟩
theorem Z0H(hT:TabOK M.P M.C.T){g:FuncId}{fn:Func}{c:Code}(hf:M.P.funcs[g]?=some fn)(hb:fn.body=some c)(N:Nat)(hN:fn.ntmps=N)(hND:N<=DS){args:List SV}(hlen:args.length<=N){res:List ResultVar}(hres:fn.results=res.toArray)
 {K:SV->Hps->Nat->Prop} {vs:List Value} (H:HeapOK M η w O nx) (hd:DenL η args vs) (h:run (M.at N none η) c (XJ 0 args) O nx (endI (M.at N none η) res K))
 {R:Ending->World->Prop} (hR:∀v r w' O' nx' η',η<+:η'->HeapOK M η' w' O' nx'->Den η' r v->K r O' nx'->R (.returned v) w'):Calls M.P g ⟨vs⟩ w R:=by
 have hl:=ZI hd;refine callsIn_wide (n:=0)|>.1 (callsIn_of_wp_marks hf hb trivial ?_)
 have hm:Models (M.at N none η) η (XJ 0 args) O nx {tmps:=⟨vs⟩++Array.replicate (fn.ntmps-(Array.mk vs).size) undef,defers:=[]} w:=by
  refine⟨H.at,?_,hND,Wm (Nat.le_trans hlen hND),(fun l j h=>by cases h),?_⟩
  ·simp only[Array.size_append,Array.size_replicate,hN,List.size_toArray];show vs.length+(N-vs.length)=N
   omega
  ·intro t sv ht;obtain⟨v,_,h1,h2⟩:=Uf hd ht;have hlt:=(List.getElem?_eq_some_iff.1 h1).1;simp only[Nat.sub_zero]at h1 hlt;rw[Array.getD_eq_getD_getElem?,Array.getElem?_append_left (by simpa using hlt)];have:(Array.mk vs)[t]?=some v:=by simpa using h1
   rw[this];exact h2
 refine Code.wpIn_mono ?_ (ZP (M:=M.at N none η) hT c h η _ w hm)
 have fin:∀{η1:Env} {fr1:Fr} {O1:Hps} {nx1:Nat} {a:Act} {w1:World},Models (M.at N none η) η1 fr1 O1 nx1 a w1->(Z2S fr1 O1 fun O1=>Uz (M.at N none η).C fr1 O1 res fun vs=>K (Z2R vs) O1 nx1)->
  LeavesInM Fence.wide 0 M.P fn a.tmps R a.defers .returning w1:=by
  intro η1 fr1 O1 nx1 a w1 hm1 hr;exact Z1Z (M:=M.at N none η) hT hres hm1 hr fun w2 O2 v r H2 hd2 hk=>hR v r w2 O2 nx1 η1 H2.pre (H2.back H.pre H.sok) hd2 hk
 intro e a w hq;cases e with
 |normal=>obtain⟨η1,fr1,O1,nx1,hm1,hq⟩:=hq;exact fin hm1 hq
 |ret=>obtain⟨η1,fr1,O1,nx1,hm1,hq⟩:=hq;exact fin hm1 hq
 |exit id=>obtain⟨η1,fr1,O1,nx1,hm1,hq⟩:=hq;exact hq.out.elim
 |goto l=>exact hq.elim
 |panic ch=>obtain⟨_,_,hn,_⟩:=hq;cases hn
 |outgrown=>exact hq.elim
theorem CALL.inline(hT:TabOK M.P M.C.T){f g:FuncId}{fn:Func}{c:Code}{args:List SV}{K:SV->Hps->Nat->Prop}(hcall:∀args w,(callFunc f args).run M.P w= .ok (.enter g args) w)(hf:M.P.funcs[g]?=some fn)(hb:fn.body=some c)(N:Nat)(hN:fn.ntmps=N)
 (hlen:Nat.ble args.length N=true) (res:List ResultVar) (hres:fn.results=res.toArray) (h:∀η0:Env,η0.length=nx->run (M.at N none η0) c (XJ 0 args) O nx (endI (M.at N none η0) res K)) (hND:Nat.ble N DS=true:=by rfl):CALL M f args O nx K:=
 ⟨fun η w vs H hd=> .inl ⟨g,hcall _ _,Z0H hT hf hb N hN (Nat.le_of_ble_eq_true hND) (Nat.le_of_ble_eq_true hlen) hres H hd (h η H.len) fun v r w' O' nx' η' hp H' hd' hk=>⟨v,rfl,r,O',nx',η',hp,H',hd',hk⟩⟩⟩
def Yn:List Nat->List Value->Array Value->Array Value
 |p::ps,v::vs,t=>Yn ps vs (t.setIfInBounds p v)
 |_,_,t=>t
theorem Z5I:∀(ps:List Nat) (vs:List Value) (t:Array Value),((ps.toArray.zip ⟨vs⟩).foldl (fun tmps (p:Nat×Value)=>tmps.setIfInBounds p.1 p.2) t)=Yn ps vs t:=by
 intro ps vs t;have h1:(ps.toArray.zip ⟨vs⟩:Array (Nat×Value))=(ps.zip vs).toArray:=by simp
 rw[h1,<-Array.foldl_toList];simp only
 induction ps generalizing vs t with
 |nil=>simp[Yn]
 |cons p ps ih=>
  cases vs with
  |nil=>simp[Yn]
  |cons v vs=>
   simp only[List.zip_cons_cons,List.foldl_cons,Yn];exact ih vs (t.setIfInBounds p v) (by simp)
theorem Z2k:∀(ps:List Nat) (vs:List Value) (t:Array Value),(Yn ps vs t).size=t.size
 | [],vs,t=>by simp[Yn]
 |p::ps,[],t=>by simp[Yn]
 |p::ps,v::vs,t=>by simp only[Yn];rw[Z2k ps vs];simp
theorem Z8b{η:Env}:∀{ps:List Nat} {ags:List SV} {fr:Fr} {K:Fr->Prop} {vs:List Value} {t:Array Value},ZaT ps ags fr K->DenL η ags vs->TmpsOK η t fr->(∀p∈ps,p<t.size)->∃fr',K fr'/\Z6L (lkp DS fr')=false/\TmpsOK η (Yn ps vs t) fr'/\vs.length=ps.length
 | [],ags,fr,K,vs,t,h,hd,ht,hp=>by
   simp only[ZaT]at h;split at h
   ·split at h
    ·exact h.out.elim
    ·rename_i hn;simp only[DenL]at hd;subst hd;exact⟨fr,h,hn,ht,rfl⟩
   ·exact h.out.elim
 |p::ps,ags,fr,K,vs,t,h,hd,ht,hp=>by
  simp only[ZaT]at h;split at h
  ·rename_i a ags;simp only[DenL]at hd;obtain⟨u,us,rfl,h1,h2⟩:=hd;have hpt:=hp p (List.mem_cons_self ..)
   obtain⟨fr',h3,h4,h5,h6⟩:=Z8b (t:=t.setIfInBounds p u) h h2 (fun s sv hs=>by
    rw[Z8]at hs;split at hs
    ·rename_i e;subst e;injection hs with hs;subst hs
     simpa[Array.getD_eq_getD_getElem?,Array.getElem?_setIfInBounds,hpt]using h1
    ·rename_i e;rw[Array.getD_eq_getD_getElem?,Array.getElem?_setIfInBounds,if_neg (Ne.symm e),<-Array.getD_eq_getD_getElem?]
     exact ht s sv hs) (fun q hq=>by rw[Array.size_setIfInBounds];exact hp q (List.mem_cons_of_mem _ hq))
   exact⟨fr',h3,h4,h5,by simp[h6]⟩
  ·exact h.out.elim
theorem HeapOK.record(H:HeapOK M η w O nx){j:Nat}{st st':LpS}{li:LpI}{fr0:Fr}(hj:lkp j O=some (.lp st li fr0)){e:Ent}(he:η[j]?=some (some e)):
 ∃r,w.heap[e.g]?=some (.loop r)/\r.state=st.state/\r.pending=st.jump/\∀r':Loop,r'.state=st'.state->r'.pending=st'.jump->r'.params=r.params->r'.assign=r.assign->r'.body=r.body->r'.tmps=r.tmps->HeapOK M η (w.putObj e.g (.loop r')) (setK j (.lp st' li fr0) O) nx:=by
 have hs:=(H.own.1 j _ hj).1;simp only[HpSat]at hs;obtain⟨e',r,h1,h2,h3,h4,h5,h6,h7,h8,h9,h10⟩:=hs;have h1':η[j]?=some (some e'):=h1;rw[he]at h1';injection h1' with h1';injection h1' with h1';subst h1';have hlt:=(Array.getElem?_eq_some_iff.1 h3).1;refine⟨r,h3,h4,h5,fun r' q1 q2 q3 q4 q5 q6=>?_⟩;refine H.upd hj he (fun k hk=>World.putObj_heap_other hk) World.putObj_size rfl rfl rfl ?_;simp only[HpSat];exact⟨e,r',h1,h2,World.putObj_heap_same hlt,q1,q2,by rw[q3];exact h6,by rw[q4];exact h7,by rw[q5];exact h8,by rw[q6];exact h9,by rw[q6];exact h10⟩
theorem YIELD.of(hT:TabOK M.P M.C.T){j:Nat}{li:LpI}{fr0:Fr}{args:List SV}{K:SV->Hps->Nat->Prop}(hj:lkp j O=some (.lp .ready li fr0))(hps:li.ps.all (fun p=>Nat.blt p li.N)=true)(hND:Nat.ble li.N DS=true)
 (h:∀(η1:Env) (l:Nat),η1.length=nx->ZaT li.ps args fr0 fun fr=>run (M.at li.N (some (l,j)) η1) li.asg fr O nx (Zel (M.at li.N (some (l,j)) η1) j li.body K)):YIELD M j args O nx K:=by
 refine⟨fun η w vs e H hd he=>?_⟩;obtain⟨r,hr,hst,hpe,_⟩:=H.record (st':= .ready) hj he;have hs:=(H.own.1 j _ hj).1;simp only[HpSat]at hs;obtain⟨e',r',h1,h2,h3,h4,h5,h6,h7,h8,h9,h10⟩:=hs;have h1':η[j]?=some (some e'):=h1;rw[he]at h1';injection h1' with h1';injection h1' with h1';subst h1';rw[hr]at h3;injection h3 with h3;injection h3 with h3;subst h3;obtain⟨fr,hrun,hnd,htm,hlen⟩:=Z8b (h η e.g H.len) hd h10 (fun p hp=>by rw[h9];simpa[Nat.blt_eq]using List.all_eq_true.1 hps p hp);have hpr:r.params=li.ps.toArray:=by rw[<-h6]
 refine⟨r.fn,_,r.assign,r.body,run_yield hr (by rw[hpr];simpa using hlen),?_⟩;rw[h7,h8];have hfold:((r.params.zip ⟨vs⟩).foldl (fun tmps (x:Nat×Value)=>tmps.setIfInBounds x.1 x.2) r.tmps)=Yn li.ps vs r.tmps:=by rw[hpr];exact Z5I li.ps vs r.tmps
 have hfold':((r.params.zip ⟨vs⟩).foldl (fun tmps x=>match x with|(t,a)=>tmps.setIfInBounds t a) r.tmps)=Yn li.ps vs r.tmps:=hfold;rw[hfold'];generalize hMr:M.at li.N (some (e.g,j)) η=Mr at hrun;have hTr:TabOK Mr.P Mr.C.T:=by subst hMr;exact hT
 have hpx:Mr.px=none:=by subst hMr;rfl
 have hPr:Mr.P=M.P:=by subst hMr;rfl
 have hfr:Mr.fence=Fence.wide.inRound e.g:=by subst hMr;rfl
 have hm:Models Mr η fr O nx {tmps:=Yn li.ps vs r.tmps,defers:=[]} w:=by
  subst hMr;refine⟨H.at,by rw[Z2k];exact h9,Nat.le_of_ble_eq_true hND,(DfOK.no hnd).2 rfl,fun l' j' hl=>?_,htm⟩;injection hl with hl;injection hl with hl1 hl2;subst hl1 hl2;exact⟨e,he,rfl⟩
 refine roundIn_of_wpIn trivial ?_;rw[<-hPr,<-hfr];refine Code.wpIn_mono ?_ (ZP hTr li.asg hrun η _ w hm);intro ex a1 w1 hq;cases ex with
 |exit id=>obtain⟨η1,fr1,O1,nx1,hm1,hq⟩:=hq;exact hq.out.elim
 |ret=>obtain⟨η1,fr1,O1,nx1,hm1,hq⟩:=hq;exact hq.out.elim
 |goto l=>exact hq.elim
 |panic ch=>obtain⟨_,_,hn,_⟩:=hq;rw[hpx]at hn;cases hn
 |outgrown=>exact hq.elim
 |normal=>
  obtain⟨η1,fr1,O1,nx1,hm1,hq⟩:=hq;simp only[Zel]at hq;split at hq
  case h_2=>exact hq.out.elim
  rename_i hh hj1;split at hq
  case h_2=>exact hq.out.elim
  rename_i st1 li1 fr01;split at hq
  case h_2=>exact hq.out.elim
  rw[XY]at hq;obtain⟨e1,he1,heg⟩:=hm1.ro e.g j (by subst hMr;rfl);obtain⟨r1,hr1,hs1,hp1,hup1⟩:=hm1.heap.record (st':= .busy) hj1 he1;rw[heg]at hr1 hup1;refine⟨_,run_beginRound hr1 hs1,?_⟩;have hm2:Models Mr η1 fr1 (setK j (.lp .busy li1 fr01) O1) nx1 a1 (w1.putObj e.g (.loop {r1 with state:= .busy})):=⟨hup1 _ rfl hp1 rfl rfl rfl rfl,hm1.size,hm1.nds,hm1.defers,hm1.ro,hm1.frame⟩;refine Code.wpIn_mono ?_ (ZP hTr li.body hq η1 a1 _ hm2)
  have fin:∀{ex:Ex} {η2:Env} {fr2:Fr} {O2:Hps} {nx2:Nat} {a2:Act} {w2:World} (jump:Option Code),Models Mr η2 fr2 O2 nx2 a2 w2->ZaU j K ex fr2 O2 nx2->(match ex with| .normal=>jump=none| .ret=>jump=some .ret| .exit id=>jump=some (.exit id))->
   ∃v w',(Instr.endRound e.g jump).run Mr.P w2= .ok v w'/\∃v',Ending.returned v= .returned v'/\∃r O' nx' η',η<+:η'/\HeapOK M η' w' O' nx'/\Den η' r v'/\K r O' nx':=by
   intro ex η2 fr2 O2 nx2 a2 w2 jump hm2 hq hj';unfold ZaU at hq;split at hq
   case h_2=>exact hq.out.elim
   rename_i hh hj2;split at hq
   case h_2=>exact hq.out.elim
   rename_i st2 li2 fr02;split at hq
   case h_2=>exact hq.out.elim
   obtain⟨e2,he2,heg2⟩:=hm2.ro e.g j (by subst hMr;rfl);have hpre:η<+:η2:=by have:=hm2.heap.pre;subst hMr;exact this
   have back:∀{w':World} {O':Hps},HeapOK Mr η2 w' O' nx2->HeapOK M η2 w' O' nx2:=fun h=>by subst hMr;exact h.back H.pre H.sok
   cases ex with
   |normal=>
    simp only at hj';subst hj';simp only[XY]at hq;obtain⟨r2,hr2,hs2,hp2,hup2⟩:=hm2.heap.record (st':= .ready) hj2 he2;rw[heg2]at hr2 hup2;exact⟨_,_,run_endRound none hr2,_,rfl, .bool true,_,_,η2,hpre,back (hup2 _ rfl rfl rfl rfl rfl rfl),(by simp only[Den];rfl),hq⟩
   |ret=>
    simp only at hj';subst hj';simp only[XY]at hq;obtain⟨r2,hr2,hs2,hp2,hup2⟩:=hm2.heap.record (st':= .left none) hj2 he2;rw[heg2]at hr2 hup2;exact⟨_,_,run_endRound (some .ret) hr2,_,rfl, .bool false,_,_,η2,hpre,back (hup2 _ rfl rfl rfl rfl rfl rfl),(by simp only[Den];rfl),hq⟩
   |exit id=>
    simp only at hj';subst hj';simp only[XY]at hq;obtain⟨r2,hr2,hs2,hp2,hup2⟩:=hm2.heap.record (st':= .left (some id)) hj2 he2;rw[heg2]at hr2 hup2;exact⟨_,_,run_endRound (some (.exit id)) hr2,_,rfl, .bool false,_,_,η2,hpre,back (hup2 _ rfl rfl rfl rfl rfl rfl),(by simp only[Den];rfl),hq⟩
  intro ex a2 w2 hq2;cases ex with
  |normal=>obtain⟨η2,fr2,O2,nx2,hm2,hq2⟩:=hq2;exact fin none hm2 hq2 rfl
  |ret=>obtain⟨η2,fr2,O2,nx2,hm2,hq2⟩:=hq2;exact fin (some .ret) hm2 hq2 rfl
  |exit id=>obtain⟨η2,fr2,O2,nx2,hm2,hq2⟩:=hq2;exact fin (some (.exit id)) hm2 hq2 rfl
  |goto l=>exact hq2.elim
  |panic ch=>obtain⟨_,_,hn,_⟩:=hq2;rw[hpx]at hn;cases hn
  |outgrown=>exact hq2.elim
theorem Z75{K:Fr->Prop}:∀{fr:Fr},noDS fr K->∃fr0,K fr0/\lkp DS fr0=none/\∀t v,lkp t fr0=some v->lkp t fr=some v
 | [],h=>⟨[],h,rfl,fun t v h=>h⟩
 |(d,u)::r,h=>by
  unfold noDS at h;split at h
  ·rename_i e;have e:=Zq e;obtain⟨fr0,h1,h0,h2⟩:=Z75 h;refine⟨fr0,h1,h0,fun t v ht=>?_⟩;rw[Z8];split
   ·rename_i e2;rw[e2,e,h0]at ht;cases ht
   ·exact h2 t v ht
  ·rename_i e;have e:=XZ e;obtain⟨fr0,h1,h0,h2⟩:=Z75 h;refine⟨(d,u)::fr0,h1,by rw[Z8,if_neg (Ne.symm e)];exact h0,fun t v ht=>?_⟩;rw[Z8]at ht⊢;split
   ·rename_i e;rw[if_pos e]at ht;exact ht
   ·rename_i e;rw[if_neg e]at ht;exact h2 t v ht
theorem Z90(hT:TabOK M.P M.C.T){gf g:FuncId}{fn:Func}{c:Code}{cap:List SV}(hcall:∀args w,(callFunc gf args).run M.P w= .ok (.enter g args) w)(hf:M.P.funcs[g]?=some fn)(hb:fn.body=some c)(N:Nat)(hN:fn.ntmps=N)(hND:N<=DS)(hlen:cap.length+1<=N)(hres:fn.results= #[])
 {f:Operand} {Q:Post} {a a':Act} {η1:Env} {w1:World} {O1:Hps} {n1 j l:Nat} (hev:∃vs,a.eval f= .func (.func gf) #[] ⟨vs⟩/\DenL η1 cap vs) (H1:HeapOK M η1 w1 O1 n1) (hj:η1[j]?=some (some ⟨l,0,0⟩)) {frK:(Fr->Prop)->Prop}
 (hfrK:∀{K:Fr->Prop},frK K->∃fr',K fr'/\∀η' w' O' nx',η1<+:η'->HeapOK M η' w' O' nx'->Models M η' fr' O' nx' a' w')
 (h:run (M.at N none η1) c (XJ 0 (.yf (.loc j)::cap)) O1 n1 (endI (M.at N none η1) [] (ZaV j frK Q))):
 ∃(d:Deferred) (w1':World) (f':FuncId) (args:Array Value) (w2:World),(resolve a.eval (rangeCall f l) 0).run M.P w1= .ok d w1'/\(∀f',Target.leads M.P w1' d.target d.args=some f'->M.fence.fn f')/\(invoke d.target d.args).run M.P w1'= .ok (.enter f' args) w2/\
  (M.fence.depth.isSome=true->1<=0)/\CallsIn M.fence (0-1) M.P f' args w2 (rangePost M.fence 0 M.P l (Z8E M Q) a'):=by
 obtain⟨vs,hv,hd⟩:=hev;refine⟨{target:= .fn (.func gf) ⟨vs⟩,args:= #[.func (.yield l) #[] #[]]},w1,g, #[.func (.yield l) #[] #[]]++⟨vs⟩,w1,?_,fun f' _=>M.all f',?_,(fun h=>by cases h),?_⟩
 ·simp only[resolve,hv];simp[go_sem]
 ·simp[invoke,go_sem,hcall]
 ·have hargs:(#[.func (.yield l) #[] #[]]++(⟨vs⟩:Array Value))=⟨Value.func (.yield l) #[] #[]::vs⟩:=by apply Array.ext';simp
  rw[hargs]
  have hd1:DenL η1 (.yf (.loc j)::cap) (Value.func (.yield l) #[] #[]::vs):=by
   simp only[DenL,Den];exact⟨_,_,rfl,⟨_,hj,rfl⟩,hd⟩
  refine callsIn_wide.2 (Z0H hT hf hb N hN hND (by simpa using hlen) (by simpa using hres) H1 hd1 h fun v r w' O' nx' η' hp H' hd' hk=>?_);unfold ZaV at hk;split at hk
  case h_2=>exact hk.out.elim
  rename_i hh hj';split at hk
  case h_2=>exact hk.out.elim
  rename_i st li fr0;have hje:η'[j]?=some (some ⟨l,0,0⟩):=Env.get_mono (b:= .loc j) hp hj;obtain⟨r1,hr1,hs1,hp1,_⟩:=H'.record (st':= .ready) hj' hje;obtain⟨s1,p1,c1,c2,c3,c4,c5,c6⟩:=r1;simp only at hr1 hs1 hp1;subst hs1 hp1;have hdrop:HeapOK M η' (w'.putObj l (.loop {state:= .exhausted,pending:=st.jump,fn:=c1,tmps:=c2,params:=c3,assign:=c4,body:=c5,defers:=c6})) (delK j O') nx':=H'.drop hj' hje (fun k hk=>World.putObj_heap_other (by rintro rfl;exact hk (feet.own (b:= .loc j) hje))) World.putObj_size rfl rfl rfl (Nat.le_refl _);split at hk
  ·rw[Xr]at hk;obtain⟨fr',h1,h2⟩:=hfrK hk;exact⟨_,_,run_endLoop hr1 (by simp[LpS.state]),⟨η',fr',_,nx',h2 η' _ _ _ hp hdrop,h1⟩⟩
  ·exact hk.out.elim
  ·split at hk
   ·rw[Xr]at hk;obtain⟨fr',h1,h2⟩:=hfrK hk;exact⟨_,_,run_endLoop hr1 (by simp[LpS.state]),wpIn_ret ⟨η',fr',_,nx',h2 η' _ _ _ hp hdrop,h1⟩⟩
   ·rw[Xr]at hk;obtain⟨fr',h1,h2⟩:=hfrK hk;exact⟨_,_,run_endLoop hr1 (by simp[LpS.state]),wpIn_exit ⟨η',fr',_,nx',h2 η' _ _ _ hp hdrop,h1⟩⟩
theorem Zd0{fr:Fr}{d:Nat}{K:Fr->Prop}(h:ZcZ fr d K):∃l,K ((DS, .dfs (.ptr (.loc d) 0 0 0::l))::fr)/\∀{η:Env} {ds:List Deferred},DfOK η ds (lkp DS fr)->DfL η l ds:=by
 unfold ZcZ at h;split at h
 ·rename_i v hv;split at h
  ·rename_i l;exact⟨l,h,fun hd=>by rw[hv]at hd;exact hd⟩
  ·rename_i hn;refine⟨[],h,fun hd=>?_⟩;rw[hv]at hd;have:Z6L (some v)=false:=by cases v<;>first|rfl|exact(hn _ rfl).elim
   rw[DfOK.no this]at hd;subst hd;rfl
 ·rename_i hv;refine⟨[],h,fun hd=>?_⟩;rw[hv]at hd;have hd:_=[]:=hd;subst hd;rfl
theorem RANGEF.of(hT:TabOK M.P M.C.T){f:Operand}{ps:Array Tmp}{asg body:Code}{fr:Fr}{Q:Post}{gf g:FuncId}{cap:List SV}{fn:Func}{c:Code}(hcall:∀args w,(callFunc gf args).run M.P w= .ok (.enter g args) w)(hf:M.P.funcs[g]?=some fn)(hb:fn.body=some c)(N:Nat)(hN:fn.ntmps=N)
 (li:LpI) (hli:li=⟨M.C.N,ps.toList,asg,body⟩) (hv:Jq fr f=some (.fn (.func gf) [] cap)) (hlen:Nat.ble (cap.length+1) N=true) (hres:fn.results= #[]) (hro:M.C.ro=none)
 (h:noDS fr fun fr0=> ∀η1:Env,η1.length=nx+2->run (M.at N none η1) c (XJ 0 (.yf (.loc (nx+1))::cap)) ((nx+1, .lp .ready li fr0)::(nx, .dfr [])::O) (nx+2) (endI (M.at N none η1) [] (ZaV (nx+1) (ZcZ fr nx) Q))) (hND:Nat.ble N DS=true:=by rfl):RANGEF M f ps asg body fr O nx Q:=by
 obtain⟨fr0,h,_,hfr0⟩:=Z75 h;refine⟨fun η a w hm=>wpIn_rangeFunc fun fnid _=>?_⟩;have hround:M.fence.round=none:=by simp[Mx.fence,hro]
 rw[hround];obtain⟨rec,hrec⟩:∃rec:Loop,rec={state:= .ready,pending:=none,fn:=fnid,tmps:=a.tmps,params:=ps,assign:=asg,body,defers:=w.heap.size}:=⟨_,rfl⟩;have hl:=hm.heap.len;obtain⟨η1,hη1⟩:∃η1:Env,η1=η++ [some ⟨w.heap.size,0,0⟩]:=⟨_,rfl⟩
 have H1:HeapOK M η1 (w.alloc (.deferred (some []))) ((nx, .dfr [])::O) (nx+1):=by
  rw[hη1];refine hm.heap.alloc (w':=w.alloc (.deferred (some []))) (o:= .deferred (some [])) (h:= .dfr []) rfl rfl rfl rfl 0 0 ?_;simp only[HpSat];exact⟨⟨w.heap.size,0,0⟩,by simp[Env.get,<-hl],rfl,World.alloc_heap_new w _,(fun n hn=>nomatch hn),by simp⟩
 have hl1:=H1.len;obtain⟨η2,hη2⟩:∃η2:Env,η2=η1++ [some ⟨w.heap.size+1,0,0⟩]:=⟨_,rfl⟩;have hsz:(w.alloc (.deferred (some []))).heap.size=w.heap.size+1:=World.size_alloc _ _;have hpre:η<+:η2:=by rw[hη2,hη1,List.append_assoc];exact List.prefix_append _ _
 have hj2:η2[nx+1]?=some (some ⟨w.heap.size+1,0,0⟩):=by rw[hη2,<-hl1];simp
 have hd2:η2[nx]?=some (some ⟨w.heap.size,0,0⟩):=by
  rw[hη2,List.getElem?_append_left (by omega),hη1,<-hl];simp
 have H2:HeapOK M η2 ((w.alloc (.deferred (some []))).alloc (.loop rec)) ((nx+1, .lp .ready li fr0)::(nx, .dfr [])::O) (nx+2):=by
  have:=H1.alloc (w':=(w.alloc (.deferred (some []))).alloc (.loop rec)) (o:= .loop rec) (h:= .lp .ready li fr0) rfl rfl rfl rfl 0 0 (by
   rw[hsz,<-hη2];simp only[HpSat];refine⟨_,rec,hj2,rfl,by rw[<-hsz];exact World.alloc_heap_new _ _,?_⟩;subst hrec hli
   exact⟨rfl,rfl,rfl,rfl,rfl,hm.size,fun t sv ht=>(hm.frame t sv (hfr0 t sv ht)).mono hpre⟩)
  rw[hsz,<-hη2]at this;exact this
 have hev:∃vs,a.eval f= .func (.func gf) #[] ⟨vs⟩/\DenL η2 cap vs:=by
  have:=Yi hm.frame hv;simp only[Den,DenL]at this;obtain⟨us,vs,h1,rfl,h3⟩:=this;exact⟨vs,h1,h3.mono hpre⟩
 obtain⟨d,w1',f',args,w2,q1,q2,q3,q4,q5⟩:=Z90 (a':={a with defers:=[{target:= .collected w.heap.size,args:= #[]}]++a.defers}) hT hcall hf hb N hN (Nat.le_of_ble_eq_true hND) (Nat.le_of_ble_eq_true hlen) hres hev H2 hj2 (frK:=ZcZ fr nx) (fun{K} hk=>by
  obtain⟨l,h1,h2⟩:=Zd0 hk;refine⟨_,h1,fun η' w' O' nx' hp H'=>⟨H',hm.size,hm.nds,?_,Vj (hpre.trans hp) hm.ro,fun t sv ht=>?_⟩⟩
  ·rw[Z8,if_pos rfl];exact⟨⟨w.heap.size,0,0⟩,a.defers,Env.get_mono (b:= .loc nx) hp hd2,rfl,h2 (hm.defers.mono (hpre.trans hp))⟩
  ·rw[Z8]at ht;split at ht
   ·injection ht with ht;subst ht;simp only[Den]
   ·exact(hm.frame t sv ht).mono (hpre.trans hp)) (h η2 H2.len)
 refine⟨w.heap.size+1,[{target:= .collected w.heap.size,args:= #[]}],_,d,w1',f',args,w2,run_enterLoop_outer _ _ _ _ _,?_,q2,q3,q4,q5⟩;rw[hrec]at q1;exact q1
end
theorem FIN.weak{M:Mx}{O O1:Hps}{nx n1:Nat}{r r1:SV}{Q:SV->Hps->Nat->Prop}(h:∀η w v,HeapOK M η w O nx->Den η r v->∃η',η<+:η'/\HeapOK M η' w O1 n1/\Den η' r1 v)(hf:FIN M O1 n1 r1 Q):FIN M O nx r Q:=
 ⟨fun η w v H hd=>let⟨η1,h1,h2,h3⟩:=h η w v H hd;hf.out η1 w v h2 h3⟩
theorem FIN.nil{M:Mx}{O:Hps}{nx:Nat}{Q:SV->Hps->Nat->Prop}(es:Nat)(hf:FIN M ((nx, .rows es [])::O) (nx+1) (.sl (.loc nx) 0 es 0 none) Q):FIN M O nx (.val (.slice none 0 0)) Q:=by
 refine FIN.weak (fun η w v H hd=>?_) hf;have hnew:(η++ [none])[nx]?=some none:=by rw[List.getElem?_append_right (by rw[H.len];omega),H.len];simp
 refine⟨η++ [none],List.prefix_append _ _,H.push none (fun _ _=>rfl) (Nat.le_refl _) rfl rfl rfl (Nat.le_refl _) (.inl ⟨hnew,rfl⟩) (fun k f=>(feet.none (b:= .loc nx) hnew f).elim) (fun k f=>(feet.none (b:= .loc nx) hnew f).elim),?_⟩;simp only[Den]at hd⊢;exact .inl ⟨hnew,hd.1,trivial⟩
theorem FIN.nilCell{M:Mx}{O:Hps}{nx:Nat}{r:SV}{Q:SV->Hps->Nat->Prop}(i j es:Nat){row row':List SV}(hi:lkp i O=some (.box row))(hr:Z2g nx es j row=some row')(hf:FIN M ((nx, .rows es [])::setK i (.box row') O) (nx+1) r Q):FIN M O nx r Q:=
 FIN.weak (fun η w v H hd=>let⟨η',h1,h2⟩:=H.nilCell hi hr;⟨η',h1,h2,Den.mono h1 hd⟩) hf
theorem FIN.nilT{M:Mx}{O:Hps}{nx:Nat}{Q:SV->Hps->Nat->Prop}(es:Nat){vs:List SV}(hf:FIN M ((nx, .rows es [])::O) (nx+1) (.tup (.sl (.loc nx) 0 es 0 none::vs)) Q):FIN M O nx (.tup (.val (.slice none 0 0)::vs)) Q:=by
 refine FIN.weak (fun η w v H hd=>?_) hf;have hnew:(η++ [none])[nx]?=some none:=by rw[List.getElem?_append_right (by rw[H.len];omega),H.len];simp
 refine⟨η++ [none],List.prefix_append _ _,H.push none (fun _ _=>rfl) (Nat.le_refl _) rfl rfl rfl (Nat.le_refl _) (.inl ⟨hnew,rfl⟩) (fun k f=>(feet.none (b:= .loc nx) hnew f).elim) (fun k f=>(feet.none (b:= .loc nx) hnew f).elim),?_⟩;simp only[Den,DenL]at hd⊢;obtain⟨xs,h1,u,us,h2,h3,h4⟩:=hd;exact⟨xs,h1,u,us,h2, .inl ⟨hnew,h3.1,trivial⟩,h4.mono (List.prefix_append _ _)⟩
end Go.Sx
namespace Go.Sx
open Go Go.Sort Go.Shelf Go.Proofs Go.Our
def Z3(s:List UInt8):List SV:=[.str s]
theorem Zr(l:List (List UInt8)):Zn (l.map Z3)=true:=Yb _ (fun _=>rfl) l
instance :PlF Z3:=⟨fun _=>rfl⟩
theorem leS(x y:List UInt8):decide (x<=y)=leC cmpL x y:=by
 show decide (x<=y)=!decide (Lib.compareBytes y x<0)
 rw[<-Z0F,Go.Proofs.bytesLess_eq];rw[Bool.eq_iff_iff];simp[List.not_lt]
theorem Vw(w:World)(blk m:Nat)(d:Array (List UInt8))(os:Array Obj):(grow (putRow encStr (Sort.ahead w m) blk 0 d) os).heap=(mapBlock w blk (putCells encStr 0 d)).heap++os:=by simp[grow,putRow,mapBlock,Sort.ahead]
theorem Z4q(w:World)(blk m:Nat)(d:Array (List UInt8))(os:Array Obj):w.heap.size<=(grow (putRow encStr (Sort.ahead w m) blk 0 d) os).heap.size:=by
 rw[Vw];simp[mapBlock]
theorem Z2Y(w:World)(blk m:Nat)(d:Array (List UInt8))(os:Array Obj){g:Nat}(hg:g<w.heap.size)(hne:g≠blk):(grow (putRow encStr (Sort.ahead w m) blk 0 d) os).heap[g]?=w.heap[g]?:=by
 rw[Vw,Array.getElem?_append_left (by simpa[mapBlock]using hg)];simp only[mapBlock,Array.getElem?_modify];rw[if_neg (fun h=>hne h.symm)]
theorem Z5M(w:World)(blk m:Nat)(d:Array (List UInt8))(os:Array Obj){c:Array Value}{T:TypeId}{fz:Nat×Nat}(h:w.heap[blk]?=some (.cells c T fz)):(grow (putRow encStr (Sort.ahead w m) blk 0 d) os).heap[blk]?=some (.cells (putCells encStr 0 d c) T fz):=by
 have hlt:=(Array.getElem?_eq_some_iff.1 h).1;rw[Vw,Array.getElem?_append_left (by simpa[mapBlock]using hlt)];simp only[mapBlock,Array.getElem?_modify,if_true,h,Option.map_eq_map,Option.map_some,onCells]
theorem Z5N{P:Program}{T:Tab}{ρ:Ren}(L:Lays.n190 P ρ)(ef:∀args w,(callFunc (ρ.f 190) args).run P w= .ok (.enter (ρ.f 190) args) w)(l:List (List UInt8))(hl:l.length<4611686018427387904):
 Does P T (ρ.f 190) 1 [.sl (.loc 0) 0 1 l.length none] [(0, .rows 1 (l.map Z3))] [] (fun r O nx=>r= .tup []/\O=[(0, .rows 1 ((l.mergeSort (leC cmpL)).map Z3))]/\nx=1):=by
 refine⟨fun M vs hP hT' hF hS H hd=> .inl ⟨ρ.f 190,by rw[hP];exact ef _ _,?_⟩⟩;obtain⟨P',⟨T',N',S',ro'⟩,w0,F,η0,px'⟩:=M;simp only at hP hT' hF hS H hd⊢;subst hP hT';simp only[DenL]at hd;obtain⟨v,us,rfl,hv,rfl⟩:=hd;have hsat:=(H.own.1 0 _ rfl).1;simp only[HpSat,Env.get]at hsat;simp only[Den,Env.get]at hv
 have fin:∀w' (O':Hps),FrW w0 w' F->HpSat η0 w' true (.loc 0) (.rows 1 ((l.mergeSort (leC cmpL)).map Z3))->
  ∃r O' nx' η',(r=SV.tup []/\O'=[(0,Hp.rows 1 ((l.mergeSort (leC cmpL)).map Z3))]/\nx'=1)/\η0<+:η'/\HeapOK ⟨P',⟨T',N',S',ro'⟩,w0,F,η0,px'⟩ η' w' O' nx'/\Den η' r (.tuple #[]):=by
  intro w' O' hfr hs;refine⟨_,_,_,η0,⟨rfl,rfl,rfl⟩,List.prefix_rfl,⟨H.pre,H.len,⟨fun i h hi=>?_,fun i j h h' k hi hj hij f f'=>?_⟩,hfr,H.sok⟩,?_⟩
  ·rw[Z8]at hi;split at hi
   ·rename_i e;subst e;injection hi with hi;subst hi;refine⟨hs,fun n f=>(H.own.1 0 _ rfl).2 n ?_⟩;obtain⟨e,h1,h2⟩:=f;exact⟨e,h1,h2⟩
   ·simp[lkp]at hi
  ·rw[Z8]at hi hj;split at hi
   ·rename_i e;subst e;split at hj
    ·rename_i e2;exact(hij e2.symm).elim
    ·simp[lkp]at hj
   ·simp[lkp]at hi
  ·simp only[Den,DenL];exact⟨[],rfl,rfl⟩
 rcases hsat with⟨hn,hnil⟩|⟨e,arr,Tt,fz,he,hheap,hown,hcells⟩
 ·have hl0:l=[]:=by simpa using hnil
  subst hl0
  have hv2:v= .slice none 0 0:=by
   rcases hv with⟨_,h,_⟩|⟨e,o,h,_⟩
   ·exact h
   ·rw[hn]at h;cases h
  subst hv2;refine(Any.slices_Sort_string_none L none 0 w0).mono ?_;rintro e w' ⟨rfl,rfl⟩;refine⟨_,rfl,fin _ [] (FrW.refl _ _) ?_⟩;simp only[HpSat,Env.get];exact .inl ⟨hn,by simp⟩
 ·obtain⟨hun,hsz,hle,hb0⟩:=hown trivial
  obtain⟨hel,hvv⟩:l.length<=e.cap/\v= .slice (some ⟨e.g,0,none⟩) l.length e.cap:=by
   rcases hv with⟨h,_⟩|⟨e',o,h,h2,h3,h4,h5⟩
   ·rw[he]at h;cases h
   ·rw[he]at h;cases h;simp only[Option.getD_none,Nat.zero_add,Nat.sub_zero]at h2 h3;have:=h5 (.inr trivial);rw[hb0]at this;simp only[Nat.zero_mul,Nat.add_zero]at this;subst this;exact⟨h3,h2⟩
  subst hvv;have hblk:e.g<w0.heap.size:=(Array.getElem?_eq_some_iff.1 hheap).1;have hsize:l.length<=arr.size:=by rw[hsz];omega
  have hcell:∀(i:Nat) (x:List UInt8),l[i]?=some x->arr[i]?=some (encStr x):=by
   intro i x hi;obtain⟨h1,h2⟩:=hcells i (Z3 x) (by rw[List.getElem?_map,hi];rfl);obtain⟨u,h3,h4,h5⟩:=h2 0 (.str x) rfl;rw[hb0,Nat.zero_add,Nat.mul_one,Nat.add_zero]at h3;simp only[Den]at h5;rw[h3,h5];try rfl
  have hH:Holds encStr w0 e.g 0 l.toArray:=by
   intro t ht;rw[List.size_toArray]at ht;have h4:=hcell t l[t] (List.getElem?_eq_getElem ht);refine⟨by rw[Nat.zero_add,ZaS hheap,h4];simp[ht],?_⟩;have:=hun t (by omega);simp only[World.frozen?,hheap,Nat.zero_add];simpa using this
  have hFg:F e.g:=by
   rcases(H.own.1 0 _ rfl).2 e.g ⟨e,he, .inl rfl⟩with h|h
   ·exact h
   ·have h:w0.heap.size<=e.g:=h;omega
  have hmain:=Any.slices_Sort_string L e.g 0 e.cap l w0 hH hblk hl;rw[show(fun x y:List UInt8=>decide (x<=y))=leC cmpL from funext fun x=>funext fun y=>leS x y]at hmain;refine hmain.mono ?_;rintro e1 w' ⟨rfl,n,os,rfl⟩;refine⟨_,rfl,fin _ [] ?_ ?_⟩
  ·refine⟨rfl,rfl,rfl,?_,Z4q ..,fun b hb hnF=>Z2Y w0 e.g n _ os hb (fun e=>hnF (e▸hFg))⟩;simp[grow,putRow,mapBlock,Sort.ahead]
  ·simp only[HpSat,Env.get];have hsl:(l.mergeSort (leC cmpL)).length=l.length:=List.length_mergeSort l;refine .inr ⟨e,_,Tt,fz,he,Z5M w0 e.g n _ os hheap,fun _=>⟨?_,?_,?_,hb0⟩,fun i rw1 hi=>?_⟩
   ·simp only[putCells,Array.size_mapIdx];exact hun
   ·simp only[putCells,Array.size_mapIdx];exact hsz
   ·rw[List.length_map,hsl];exact hel
   ·rw[List.getElem?_map]at hi;obtain⟨x,hx,rfl⟩:=Option.map_eq_some_iff.1 hi;refine⟨rfl,fun j sv hj=>?_⟩;have hil:=(List.getElem?_eq_some_iff.1 hx).1
    match j,hj with
    |0,hj=>
     injection hj with hj;subst hj;refine⟨encStr x,?_,rfl,by simp only[Den];try rfl⟩;have hlt:i<arr.size:=by omega
     rw[hb0,Nat.zero_add,Nat.mul_one,Nat.add_zero];have hxe:=(List.getElem?_eq_some_iff.1 hx).2;have hil':i<l.length:=by omega
     simp only[putCells,Array.getElem?_mapIdx,Array.getElem?_eq_getElem hlt,Option.map_some,Nat.zero_le,true_and,Nat.zero_add,List.size_toArray,hsl,hil',if_true,Nat.sub_zero];rw[Array.getElem!_eq_getD,Array.getD_eq_getD_getElem?];simp[hx]
end Go.Sx
namespace Go.Our
section
variable {α:Type}{c:α->α->Int}
end
theorem Z0I{l:List Qd}(h:∀k (hk:k<l.length),1<=k->ZH (l[k-1]'(by omega)) l[k]<0):Rise ZH l:=by
 refine List.pairwise_iff_getElem.2 fun i j hi hj hij=>?_
 induction j with
 |zero=>omega
 |succ j ih=>
  have h1:=h (j+1) hj (by omega);simp only[Nat.add_sub_cancel]at h1;rcases Nat.lt_or_eq_of_le (Nat.le_of_lt_succ hij)with h2|rfl
  ·exact triQ.lt_trans (ih (by omega) h2) (by omega)
  ·exact h1
end Go.Our
namespace Go.Sx
open Go
def Z5O:List Nat->Hps->(Hps->Prop)->Prop
 | [],_,K=>K []
 |i::is,O,K=>match lkp i O with
  |some h=>Z5O is O fun r=>K ((i,h)::r)
  |none=>Z5O is O K
def Z96:Hps->Hps->(Hps->Prop)->Prop
 | [],r,K=>K r
 |(i,h)::l,r,K=>Z96 l r fun r=>K ((i,h)::r)
theorem Z02:∀{ts:List Nat} {O:Hps} {K:Hps->Prop},Z5O ts O K->∃r,K r
 | [],O,K,h=>⟨_,h⟩
 |t::ts,O,K,h=>by
  simp only[Z5O]at h;split at h
  ·obtain⟨r,hr⟩:=Z02 h;exact⟨_,hr⟩
  ·exact Z02 h
theorem Z5P:∀{l r:Hps} {K:Hps->Prop},Z96 l r K<->K (l++r)
 | [],r,K=>Iff.rfl
 |(t,v)::l,r,K=>by simp only[Z96,List.cons_append,Z5P]
theorem Zf{m es:Nat}{rs:List (List SV)}(h:Zn rs=true):Zs m (.rows es rs)=true:=by simp only[Zs,Ze _ h]
theorem Z7{m es:Nat}{σ:Nat->Nat}{rs:List (List SV)}(h:Zn rs=true):Zs m (renH σ (.rows es rs))=true:=by rw[Zc _ (h:= .rows es rs) h];exact Zf h
section
variable {M:Mx}{fr:Fr}{O:Hps}{nx:Nat}
theorem LOOP.gok{body:Code}{Q:Post}(hT:TabOK M.P M.C.T)(ks ko:List Nat){X:Type}(P:X->Prop)(chg:X->Fr)(Ox:X->Hps)(n0:Nat)(μ:X->Nat)(x0:X)(hP:P x0)
 (h:Z8U ks fr fun fr0=>Z5O ko O fun O0=>(appK (chg x0) fr0 fun fr'=>Z96 (Ox x0) O0 fun O'=>GOES M fr O nx fr' O' n0)/\
   ∀x,P x->appK (chg x) fr0 fun fr1=>Z96 (Ox x) O0 fun O1=>run M body fr1 O1 n0 fun e fr O nx=>match e with
    | .normal=> ∃x',P x'/\μ x'<μ x/\appK (chg x') fr0 fun fr'=>Z96 (Ox x') O0 fun O'=>GOES M fr O nx fr' O' n0
    |e=>Q e fr O nx):LOOP M body fr O nx Q:=by
 obtain⟨fr0,h⟩:=Z2d h;obtain⟨O0,h1,h2⟩:=Z02 h;simp only[Z4h,Z5P]at h1 h2;exact LOOP.inv hT P (fun x=>(chg x++fr0,Ox x++O0,n0)) μ x0 hP h1 h2
theorem LOOP.nilCell{body:Code}{Q:Post}(i j es:Nat){row row':List SV}(hi:lkp i O=some (.box row))(hr:Z2g nx es j row=some row')(k:LOOP M body fr ((nx, .rows es [])::setK i (.box row') O) (nx+1) Q):LOOP M body fr O nx Q:=
 LOOP.goes ⟨fun η a w hm=>let⟨η',hp,H⟩:=hm.heap.nilCell hi hr;⟨η',H,hm.size,hm.nds,hm.defers.mono hp,Vj hp hm.ro,fun t v ht=>(hm.frame t v ht).mono hp⟩⟩ k
end
end Go.Sx
namespace Go.Our
open Go.Sx
def ZG:List UInt8->List (List UInt8)
 | []=>[[]]
 |c::t=>if c=45 then []::ZG t else match ZG t with
  |h::r=>(c::h)::r
  | []=>[[c]]
theorem Z4y:∀s,ZG s≠ []
 | []=>by simp[ZG]
 |c::t=>by
  unfold ZG;split
  ·simp
  ·split<;>simp
theorem JD:∀s:List UInt8,(ZG s).length=s.count 45+1
 | []=>rfl
 |c::t=>by
  have ih:=JD t;unfold ZG;split
  ·rename_i h;subst h;simp[ih]
  ·rename_i h;split
   ·rename_i h' r e;rw[e]at ih;simp at ih⊢;rw[List.count_cons_of_ne (by simpa using h)];omega
   ·rename_i e;exact(Z4y t e).elim
theorem Z3F:∀{s:List UInt8},Lib.indexByte s 45= -1->ZG s=[s]
 | [],_=>rfl
 |c::t,h=>by
  unfold Lib.indexByte at h;by_cases hc:c=45
  ·subst hc;simp at h
  ·have hge:=Lib.indexByte_ge t 45
   have:Lib.indexByte t 45= -1:=by
    simp[hc]at h;apply Classical.byContradiction;intro hn;have:=h hn;omega
   unfold ZG;rw[if_neg hc,Z3F this]
theorem Z3G:∀{s:List UInt8} {m:Nat},Lib.indexByte s 45=m->m<s.length/\ZG s=s.take m::ZG (s.drop (m+1))
 | [],m,h=>by unfold Lib.indexByte at h;omega
 |c::t,m,h=>by
  unfold Lib.indexByte at h;by_cases hc:c=45
  ·subst hc;simp at h;obtain rfl:m=0:=by omega
   simp[ZG]
  ·have hge:=Lib.indexByte_ge t 45;simp[hc]at h;split at h
   ·omega
   ·obtain⟨k,rfl⟩:∃k,m=k+1:=⟨m-1,by omega⟩;have ih:=Z3G (s:=t) (m:=k) (by omega);refine⟨by simp;omega,?_⟩;conv=>lhs;unfold ZG
    rw[if_neg hc,ih.2];simp only[List.take_succ_cons,List.drop_succ_cons]
theorem Z5Y(s:List UInt8):(ZG s).length<=s.length+1:=by
 rw[JD];have:=List.count_le_length (a:=(45:UInt8)) (l:=s);omega
def Zu(s:List UInt8):List SV:=[.str s]
theorem Yw(l:List (List UInt8)):Zn (l.map Zu)=true:=Yb _ (fun _=>rfl) l
instance :PlF Zu:=⟨fun _=>rfl⟩
def Z2p(d:List (List UInt8))(k:Nat):List (List SV):=d.map Zu++List.replicate k (Zu [])
theorem Z5Z(d:List (List UInt8))(k:Nat):Zn (Z2p d k)=true:=by
 unfold Z2p;refine UE (Yw d) ?_
 induction k with
 |zero=>rfl
 |succ k ih=>rw[List.replicate_succ];simp only[Zn,ih];rfl
theorem Z8f{d:List (List UInt8)}{k i:Nat}(h:i=d.length)(hk:0<k):(Z2p d k)[i]?=some (Zu []):=by
 subst h;unfold Z2p;rw[List.getElem?_append_right (by simp)];simp[List.getElem?_replicate,hk]
theorem Z8g{d:List (List UInt8)}{k i:Nat}{p:List UInt8}(h:i=d.length)(hk:0<k):(Z2p d k).set i [.str p]=Z2p (d++ [p]) (k-1):=by
 subst h;obtain⟨j,rfl⟩:∃j,k=j+1:=⟨k-1,by omega⟩;unfold Z2p;rw[List.set_append_right _ _ (by simp)];simp[List.replicate_succ,Zu]
def Z7c(s:List UInt8):Bool:=Y1 s 1 1 false&&!Vx s
def YD(p:List UInt8->Bool):List (List UInt8)->Nat
 | []=>0
 |s::l=>if p s=true then YD p l+1 else 0
theorem W1(p:List UInt8->Bool):∀l,YD p l<=l.length
 | []=>by simp[YD]
 |s::l=>by
  have:=W1 p l;unfold YD;split<;>simp<;>omega
abbrev UJ(least:Int):List UInt8->Bool:=fun s=>Y1 s least 8 false
def extP:Nat->List (List UInt8)->List (List UInt8)
 |0,l=>l
 |_+1,[]=>[]
 |n+1,s::l=>if Y1 s 3 3 true=true then extP n l else s::l
def Z06:List (List UInt8)->Option (List (List UInt8))
 | []=>none
 |s::l=>if Y1 s 2 8 true=true then(if 3<s.length then some l else some (extP 3 l))else none
def JT(p:List UInt8->Bool):List (List UInt8)->List (List UInt8)
 | []=>[]
 |s::l=>if p s=true then l else s::l
def Xq(seen:List (List UInt8)):List (List UInt8)->Option (List (List UInt8)×List (List UInt8))
 | []=>some ([],seen)
 |s::l=>if Z4x s=true then(if Zt s∈seen then none else Xq (seen++ [Zt s]) l)else some (s::l,seen)
def X2(seen:List (List UInt8)):List (List UInt8)->Option (List (List UInt8))
 | []=>some []
 |s::l=>if Z7c s=true then
   (if YD (UJ 2) l=0\/Zt s∈seen then none else X2 (seen++ [Zt s]) (l.drop (YD (UJ 2) l)))
   else some (s::l)
termination_by l=>l.length
decreasing_by simp;omega
def Xa(l:List (List UInt8)):Option (List (List UInt8)):=
 match Xq [] (JT W0 (JT (fun s=>Y1 s 4 4 true) l))with
 |none=>none
 |some (l,seen)=>X2 seen l
def Z8h(p:List UInt8->Bool):List (List UInt8)->Bool
 | []=>false
 |s::_=>p s
def WA:List (List UInt8)->Bool
 | []=>true
 |s::l=>if Vx s=true then decide (YD (UJ 1) l≠0/\YD (UJ 1) l=l.length)else false
def tagP(l:List (List UInt8)):Bool:=
 if Z8h Vx l=true then WA l else
 match Z06 l with
 |none=>false
 |some l=>match Xa l with
  |none=>false
  |some l=>WA l
theorem Z3H:∀s:List UInt8,((ZG s).map List.length).sum+(ZG s).length=s.length+1
 | []=>rfl
 |c::t=>by
  have ih:=Z3H t;have hne:=Z4y t;unfold ZG;split
  ·simp only[List.map_cons,List.sum_cons,List.length_cons,List.length_nil];omega
  ·split
   ·rename_i h r e;rw[e]at ih;simp only[List.map_cons,List.sum_cons,List.length_cons]at ih⊢;omega
   ·rename_i e;exact(hne e).elim
def Vy:List UInt8:=[104,116,116,112,58,47,47,119,119,119,46,119,51,46,111,114,103,47,49,57,57,57,47,48,50,47,50,50,45,114,100,102,45,115,121,110,116,97,120,45,110,115,35,108,97,110,103,83,116,114,105,110,103]
def litM(t y l:List UInt8):Int:=
 if 65536<t.length then 2 else if 0<=chk t 0 then 40 else if iriM y≠0 then iriM y else
 if l≠ []/\65536<l.length then 2 else if l≠ []/\(¬tagP (ZG l)=true\/Zt l≠l)then 61 else
 if(l≠ []/\¬y=Vy)\/(l=[]/\y=Vy)then 71 else 0
def checkM(x:Tm):Int:=
 if x.k=1\/x.k=2 then(if x.y≠ []\/x.l≠ []then 70 else if x.k=1 then iriM x.t else if 65536<x.t.length then 2 else VY x.t)
 else if x.k=3 then litM x.t x.y x.l else 70
def X5(q:Qd):Int:=
 if ¬(q.s.k=1\/q.s.k=2)then 70 else if checkM q.s≠0 then checkM q.s else
 if ¬q.p.k=1 then 70 else if checkM q.p≠0 then checkM q.p else
 if checkM q.o≠0 then checkM q.o else
 if q.g=Y6 then 0 else if ¬(q.g.k=1\/q.g.k=2)then 70 else checkM q.g
theorem Z9a{x:Tm}(h:checkM x=0):x.k=1\/x.k=2\/x.k=3:=by
 unfold checkM at h;split at h
 ·omega
 ·split at h
  ·omega
  ·omega
theorem Z7d{x:Tm}(h:¬(x.k=1\/x.k=2\/x.k=3)):checkM x=70:=by
 unfold checkM;rw[if_neg (by omega),if_neg (by omega)]
def badM(l:List Qd)(i:Nat):Option (Nat×Int):=if h:i<l.length then(if X5 l[i]≠0 then some (i,X5 l[i])else badM l (i+1))else none
termination_by l.length-i
theorem Z07{l:List Qd}{i:Nat}(h:l.length<=i):badM l i=none:=by unfold badM;rw[dif_neg (by omega)]
theorem Z60{l:List Qd}{i:Nat}(h:i<l.length):badM l i=if X5 l[i]≠0 then some (i,X5 l[i])else badM l (i+1):=by
 conv=>lhs;unfold badM
 rw[dif_pos h]
def Z08(l:List Qd)(i:Nat):Option Nat:=if h:i<l.length then(if 0<=ZH (l[i-1]'(by omega)) l[i]then some i else Z08 l (i+1))else none
termination_by l.length-i
theorem WB{l:List Qd}{i:Nat}(h:l.length<=i):Z08 l i=none:=by unfold Z08;rw[dif_neg (by omega)]
theorem Z4z{l:List Qd}{i:Nat}(h:i<l.length):Z08 l i=if 0<=ZH (l[i-1]'(by omega)) l[i]then some i else Z08 l (i+1):=by
 conv=>lhs;unfold Z08
 rw[dif_pos h]
def XD(l:List Qd):Nat×Int:=
 if 1048576<l.length then(0,2)else match badM l 0 with
 |some x=>x
 |none=>match Z08 l 1 with
  |some i=>(i,6)
  |none=>(0,0)
theorem Z4J:∀{l:List Qd} {i:Nat},(∀x,badM l i=some x->x.2≠0)
 |l,i=>by
  intro x hx;by_cases h:i<l.length
  ·rw[Z60 h]at hx;split at hx
   ·rename_i hc;injection hx with hx;subst hx;exact hc
   ·exact Z4J x hx
  ·rw[Z07 (by omega)]at hx;cases hx
 termination_by l i=>l.length-i
theorem Z69:∀{l:List Qd} {i:Nat},Z08 l i=none->∀k (hk:k<l.length),1<=k->i<=k->ZH (l[k-1]'(by omega)) l[k]<0
 |l,i=>by
  intro h k hk h1 hik;have hil:i<l.length:=by omega
  rw[Z4z hil]at h;split at h
  ·cases h
  ·rename_i hc;rcases Nat.lt_or_eq_of_le hik with h2|rfl
   ·exact Z69 h k hk h1 (by omega)
   ·omega
 termination_by l i=>l.length-i
theorem Z3K{l:List Qd}(h:(XD l).2=0):Rise ZH l/\l.length<=1048576:=by
 unfold XD at h;split at h
 ·cases h
 ·rename_i hl;cases hb:badM l 0 with
  |some x=>rw[hb]at h;exact(Z4J x hb h).elim
  |none=>
   rw[hb]at h;cases hf:Z08 l 1 with
   |some i=>rw[hf]at h;cases h
   |none=>exact⟨Z0I fun k hk h1=>Z69 hf k hk h1 h1,by omega⟩
theorem Zbk:∀{l:List Qd} {i:Nat},badM l i=none->∀k (hk:k<l.length),i<=k->X5 l[k]=0
 |l,i=>by
  intro h k hk hik;rw[Z60 (by omega)]at h;split at h
  ·cases h
  ·rename_i hc;rcases Nat.lt_or_eq_of_le hik with h2|rfl
   ·exact Zbk h k hk (by omega)
   ·simpa using hc
 termination_by l i=>l.length-i
theorem Z6a{l:List Qd}(h:(XD l).2=0):∀q∈l,X5 q=0:=by
 unfold XD at h;split at h
 ·cases h
 ·cases hb:badM l 0 with
  |some x=>rw[hb]at h;exact(Z4J x hb h).elim
  |none=>
   intro q hq;obtain⟨k,hk,rfl⟩:=List.mem_iff_getElem.1 hq;exact Zbk hb k hk (Nat.zero_le _)
theorem Zbl{s:List UInt8}(h:iriM s=0):s.length<=65536:=by
 unfold iriM at h;split at h
 ·omega
 ·rename_i h1;have h1:refM s=0:=by omega
  unfold refM at h1;split at h1
  ·omega
  ·omega
theorem Zbm{x:Tm}(h:checkM x=0):x.t.length<=65536/\x.y.length<=65536/\x.l.length<=65536:=by
 unfold checkM at h;split at h
 ·split at h
  ·omega
  ·rename_i hk hn;simp only[ne_eq,not_or,Decidable.not_not]at hn;rw[hn.1,hn.2];split at h
   ·exact⟨Zbl h,by simp,by simp⟩
   ·split at h
    ·omega
    ·exact⟨by omega,by simp,by simp⟩
 ·split at h
  ·unfold litM at h;split at h
   ·omega
   split at h
   ·omega
   split at h
   ·rename_i h1;exact(h1 h).elim
   split at h
   ·omega
   rename_i h1 h2 h3 h4;refine⟨by omega,Zbl (by simpa using h3),?_⟩;by_cases e:x.l=[]
   ·rw[e];simp
   ·have:¬65536<x.l.length:=fun hl=>h4 ⟨e,hl⟩;omega
  ·omega
theorem Z7k{q:Qd}(h:X5 q=0):checkM q.s=0/\checkM q.p=0/\checkM q.o=0/\(q.g=Y6\/checkM q.g=0)/\q.p.k=1:=by
 unfold X5 at h;split at h
 ·omega
 split at h
 ·omega
 split at h
 ·omega
 split at h
 ·omega
 split at h
 ·omega
 rename_i h1 h2 h3 h4 h5;refine⟨by omega,by omega,by omega,?_,by omega⟩;split at h
 ·exact .inl ‹_›
 ·split at h
  ·omega
  ·exact .inr h
theorem Z6b:∀(l:List Qd),(l.zip l.tail).all (fun x=>decide (ZH x.1 x.2<0))=true->Rise ZH l:=by
 intro l h;refine Z0I fun k hk h1=>?_;rw[List.all_eq_true]at h
 have:=h (l[k-1]'(by omega),l[k]) (by
  rw[List.mem_iff_getElem];refine⟨k-1,by simp;omega,?_⟩;simp only[List.getElem_zip,List.getElem_tail];congr 1
  congr 1;omega)
 exact of_decide_eq_true this
def typB:List UInt8:=[104,116,116,112,58,47,47,119,119,119,46,119,51,46,111,114,103,47,49,57,57,57,47,48,50,47,50,50,45,114,100,102,45,115,121,110,116,97,120,45,110,115,35,116,121,112,101]
def domB:List UInt8:=[104,116,116,112,58,47,47,119,119,119,46,119,51,46,111,114,103,47,50,48,48,48,47,48,49,47,114,100,102,45,115,99,104,101,109,97,35,100,111,109,97,105,110]
def ranB:List UInt8:=[104,116,116,112,58,47,47,119,119,119,46,119,51,46,111,114,103,47,50,48,48,48,47,48,49,47,114,100,102,45,115,99,104,101,109,97,35,114,97,110,103,101]
def subP:List UInt8:=[104,116,116,112,58,47,47,119,119,119,46,119,51,46,111,114,103,47,50,48,48,48,47,48,49,47,114,100,102,45,115,99,104,101,109,97,35,115,117,98,80,114,111,112,101,114,116,121,79,102]
def subC:List UInt8:=[104,116,116,112,58,47,47,119,119,119,46,119,51,46,111,114,103,47,50,48,48,48,47,48,49,47,114,100,102,45,115,99,104,101,109,97,35,115,117,98,67,108,97,115,115,79,102]
abbrev iriT(s:List UInt8):Tm:=⟨1,s,[],[]⟩
abbrev dr2(a b:Qd):Qd×Bool:=(⟨b.s,iriT typB,a.o,a.g⟩,decide (a.p=iriT domB/\a.s=b.p))
abbrev dr3(a b:Qd):Qd×Bool:=(⟨b.o,iriT typB,a.o,a.g⟩,decide (a.p=iriT ranB/\a.s=b.p))
abbrev chn(s:List UInt8)(a b:Qd):Qd×Bool:=(⟨a.s,a.p,b.o,a.g⟩,decide (a.p=iriT s/\b.p=a.p/\a.o=b.s))
abbrev dr7(a b:Qd):Qd×Bool:=(⟨b.s,a.o,b.o,a.g⟩,decide (a.p=iriT subP/\a.s=b.p))
abbrev dr9(a b:Qd):Qd×Bool:=(⟨b.s,iriT typB,a.o,a.g⟩,decide (a.p=iriT subC/\b.p=iriT typB/\b.o=a.s))
def Zbn(n:Int)(a b:Qd):Qd×Bool:=
 if n=2 then dr2 a b else if n=3 then dr3 a b else if n=5 then chn subP a b else if n=7 then dr7 a b else if n=9 then dr9 a b else if n=11 then chn subC a b else(Yv,false)
def Z36(n:Int)(a b:Qd):Qd×Bool:=
 if X5 a=0/\X5 b=0/\a.g=b.g/\(Zbn n a b).2=true/\X5 (Zbn n a b).1=0 then((Zbn n a b).1,true)else(Yv,false)
structure St where
 r:Int
 a:Qd
 b:Qd
 q:Qd
 deriving DecidableEq
def St.row(s:St):List SV:=[.int .i64 s.r,
 .int .i64 s.a.s.k, .str s.a.s.t, .str s.a.s.y, .str s.a.s.l, .int .i64 s.a.p.k, .str s.a.p.t, .str s.a.p.y, .str s.a.p.l, .int .i64 s.a.o.k, .str s.a.o.t, .str s.a.o.y, .str s.a.o.l, .int .i64 s.a.g.k, .str s.a.g.t, .str s.a.g.y, .str s.a.g.l,
 .int .i64 s.b.s.k, .str s.b.s.t, .str s.b.s.y, .str s.b.s.l, .int .i64 s.b.p.k, .str s.b.p.t, .str s.b.p.y, .str s.b.p.l, .int .i64 s.b.o.k, .str s.b.o.t, .str s.b.o.y, .str s.b.o.l, .int .i64 s.b.g.k, .str s.b.g.t, .str s.b.g.y, .str s.b.g.l,
 .int .i64 s.q.s.k, .str s.q.s.t, .str s.q.s.y, .str s.q.s.l, .int .i64 s.q.p.k, .str s.q.p.t, .str s.q.p.y, .str s.q.p.l, .int .i64 s.q.o.k, .str s.q.o.t, .str s.q.o.y, .str s.q.o.l, .int .i64 s.q.g.k, .str s.q.g.t, .str s.q.g.y, .str s.q.g.l]
abbrev Zhf(s:St):List SV:=s.row
instance :PlF Zhf:=⟨fun _=>rfl⟩
structure Wd where
 all:List Qd
 why:List St
 place:List (Qd×Int)
 at':List (Qd×List Qd)
def Zgr(q:Qd):Qd:=⟨q.g,Y6,q.p,Y6⟩
def Zgs(q:Qd):Qd:=⟨q.g,q.s,q.p,Y6⟩
def Zgt(q:Qd):Qd:=⟨q.g,Y6,q.p,q.o⟩
def atL(k:Qd)(l:List (Qd×List Qd)):List Qd:=(getA k l).getD []
def Z9k(k q:Qd)(l:List (Qd×List Qd)):List (Qd×List Qd):=setA k (atL k l++ [q]) l
def putM(w:Wd)(s:St):Wd:=
 if(getA s.q w.place).isSome then w else⟨w.all++ [s.q],w.why++ [s],setA s.q (w.all.length:Int) w.place,Z9k (Zgt s.q) s.q (Z9k (Zgs s.q) s.q (Z9k (Zgr s.q) s.q w.at'))⟩
def Zgu:Wd:=⟨[],[],[],[]⟩
def Zgv(q:Qd):St:=⟨0,Yv,Yv,q⟩
def Zgw(l:List Qd):Wd:=l.foldl (fun w q=>putM w (Zgv q)) Zgu
abbrev intV(n:Int):SV:= .int .i64 n
abbrev qdsV(l:List Qd):List (List SV):=l.map Zl
abbrev Zen(l:List (Qd×Int)):List (List SV):=VV KQ intV l
abbrev atR(l:List (Qd×List Qd)):List (List DC):=Z3x KQ 16 qdsV l
theorem Z9l(l:List (Qd×Int)):Zn (Zen l)=true:=Z6Y KQ _ (fun _=>rfl) l
instance {l:List (Qd×Int)}:Pl (Zen l):=⟨Z9l l⟩
theorem Zfe(l:List (Qd×List Qd)):ZF (atR l)=true:=Z87 KQ 16 _ (fun b=>Yb _ (fun _=>rfl) b) l
instance {l:List (Qd×List Qd)}:PlD (atR l):=⟨Zfe l⟩
theorem Zff(k q k':Qd)(m:List (Qd×List Qd)):atL k' (Z9k k q m)=if k'=k then atL k m++ [q]else atL k' m:=by
 unfold Z9k atL;rw[JR];split<;>rfl
def Zdj(i:Nat)(q:Qd):Qd:=match i with|0=>Zgr q|1=>Zgs q|_=>Zgt q
def atN(q:Qd)(l:List (Qd×List Qd)):Nat->List (Qd×List Qd)
 |0=>l
 |i+1=>Z9k (Zdj i q) q (atN q l i)
structure WdOK(w:Wd):Prop where
 len:w.why.length=w.all.length
 mem:∀q,q∈w.all<->(getA q w.place).isSome=true
 at3:∀k,(atL k w.at').length<=3*w.all.length
theorem Zfg{w:Wd}{s:St}(h:(getA s.q w.place).isSome=true):putM w s=w:=by unfold putM;rw[if_pos h]
theorem Zgx{w:Wd}{s:St}(h:getA s.q w.place=none):putM w s=⟨w.all++ [s.q],w.why++ [s],setA s.q (w.all.length:Int) w.place,atN s.q w.at' 3⟩:=by unfold putM;rw[h];rfl
inductive Der(l:List Qd):Qd->Prop
 |base {q:Qd} (h:q∈l):Der l q
 |step {n:Int} {a b:Qd} (ha:Der l a) (hb:Der l b) (h:(Z36 n a b).2=true):Der l (Z36 n a b).1
def Zhg(first:Bool)(q o:Qd)(n:Int):Option St:=
 let a:=if first then q else o
 let b:=if first then o else q
 if(Z36 n a b).2 then some ⟨n,a,b,(Z36 n a b).1⟩else none
def Zhh(first:Bool)(q:Qd)(others:List Qd)(ns:List Int):List St:=others.flatMap fun o=>ns.filterMap (Zhg first q o)
def Zgy{σ:Type}(T:σ->St->σ×Bool):List St->σ->σ×Bool
 | [],s=>(s,true)
 |c::cs,s=>if(T s c).2 then Zgy T cs (T s c).1 else((T s c).1,false)
abbrev Ask:=Bool×Qd×List Int
def asks(q:Qd):List Ask:=[(true,⟨q.g,Y6,q.s,Y6⟩,[2,3,7]),(true,⟨q.g,q.o,q.p,Y6⟩,[5,11]),(true,⟨q.g,Y6,iriT typB,q.s⟩,[9]),
 (false,⟨q.g,q.p,iriT domB,Y6⟩,[2]),(false,⟨q.g,q.p,iriT ranB,Y6⟩,[3]),(false,⟨q.g,q.p,iriT subP,Y6⟩,[7]),
 (false,⟨q.g,Y6,q.p,q.s⟩,[5,11]),(false,⟨q.g,q.o,iriT subC,Y6⟩,[9])]
def askM{σ:Type}(T:σ->St->σ×Bool)(rd:σ->List (Qd×List Qd))(q:Qd)(a:Ask)(s:σ):σ×Bool:=Zgy T (Zhh a.1 q (atL a.2.1 (rd s)) a.2.2) s
def askL{σ:Type}(T:σ->St->σ×Bool)(rd:σ->List (Qd×List Qd))(q:Qd):List Ask->σ->σ×Bool
 | [],s=>(s,true)
 |a::as',s=>if(askM T rd q a s).2 then askL T rd q as' (askM T rd q a s).1 else((askM T rd q a s).1,false)
structure AtOK(w:Wd):Prop where
 sub:∀k o,o∈atL k w.at'->o∈w.all
 all:∀o∈w.all,∀k,k<3->o∈atL (Zdj k o) w.at'
 nodup:w.all.Nodup
theorem Zbo(q:Qd)(m:List (Qd×List Qd))(k o:Qd):∀i,o∈atL k (atN q m i)<->o∈atL k m\/(o=q/\∃j,j<i/\k=Zdj j q)
 |0=>by simp[atN]
 |i+1=>by
  unfold atN;rw[Zff];have ih:=fun k=>Zbo q m k o i;by_cases e:k=Zdj i q
  ·subst e;rw[if_pos rfl,List.mem_append,ih,List.mem_singleton];constructor
   ·rintro((h|⟨h1,j,h2,h3⟩)|rfl)
    ·exact .inl h
    ·exact .inr ⟨h1,j,by omega,h3⟩
    ·exact .inr ⟨rfl,i,by omega,rfl⟩
   ·rintro(h|⟨h1,j,h2,h3⟩)
    ·exact .inl (.inl h)
    ·exact .inr h1
  ·rw[if_neg e,ih];constructor
   ·rintro(h|⟨h1,j,h2,h3⟩)
    ·exact .inl h
    ·exact .inr ⟨h1,j,by omega,h3⟩
   ·rintro(h|⟨h1,j,h2,h3⟩)
    ·exact .inl h
    ·refine .inr ⟨h1,j,?_,h3⟩;rcases Nat.lt_or_eq_of_le (Nat.le_of_lt_succ h2)with h|rfl
     ·exact h
     ·exact(e h3).elim
def Zfh(most:Int)(w:Wd)(s:St):Wd×Bool:=(putM w s,decide (((putM w s).all.length:Int)<=most))
def SOK(known:List Qd)(s:St):Prop:=s.a∈known/\s.b∈known/\(Z36 s.r s.a s.b).2=true/\(Z36 s.r s.a s.b).1=s.q
theorem SOK.mono{k k':List Qd}{s:St}(h:SOK k s)(hs:∀q∈k,q∈k'):SOK k' s:=⟨hs _ h.1,hs _ h.2.1,h.2.2⟩
structure WhyI(l:List Qd)(w:Wd):Prop where
 here:∀(i:Nat) q,w.all[i]?=some q->getA q w.place=some (i:Int)
 why:∀(i:Nat) s,w.why[i]?=some s->w.all[i]?=some s.q/\(s.q∈l\/SOK (w.all.take i) s)
structure CInv(l:List Qd)(w:Wd):Prop where
 ok:WdOK w
 spots:AtOK w
 sub:∀q∈l,q∈w.all
 der:∀q∈w.all,Der l q
 why:WhyI l w
 pre:(Zgw l).all<+:w.all
theorem Zab(w:Wd)(s:St)(k o:Qd)(h:o∈atL k w.at'):o∈atL k (putM w s).at':=by
 cases hg:getA s.q w.place with
 |some v=>rw[Zfg (by rw[hg];rfl)];exact h
 |none=>rw[Zgx hg];exact(Zbo s.q w.at' k o 3).2 (.inl h)
structure Grown(l:List Qd)(most:Int)(w:Wd)(r:Wd×Bool):Prop where
 inv:CInv l r.1
 pre:w.all<+:r.1.all
 spots:∀k o,o∈atL k w.at'->o∈atL k r.1.at'
 less:r.2=false->most< (r.1.all.length:Int)
 upto:(w.all.length:Int)<=most->(r.1.all.length:Int)<=most+1
 yes:r.2=true->(w.all.length:Int)<=most->(r.1.all.length:Int)<=most
theorem Grown.refl{l:List Qd}{most:Int}{w:Wd}(h:CInv l w):Grown l most w (w,true):=⟨h,List.prefix_rfl,fun _ _ h=>h,(fun h=>by cases h),(fun h=>by show(w.all.length:Int)<=most+1;omega),fun _ h=>h⟩
def Zhi(most:Int)(q:Qd)(w:Wd):Wd×Bool:=askL (Zfh most) Wd.at' q (asks q) w
def runW(most:Int)(w:Wd):Nat->Wd
 |0=>w
 |i+1=>match(runW most w i).all[i]? with
  |some q=>(Zhi most q (runW most w i)).1
  |none=>runW most w i
abbrev More(most:Int)(i:Nat)(w:Wd):Prop:=i<w.all.length/\(w.all.length:Int)<=most
def Zhj(most:Int)(w:Wd)(n:Nat)(v:Wd):Prop:=v=runW most w n/\∀j,j<n->More most j (runW most w j)
theorem Xt(most:Int)(w:Wd):Zhj most w 0 w:=⟨rfl,fun j h=>by omega⟩
structure DrIn(l out:List Qd):Prop where
 nodup:out.Nodup
 new:∀r∈out,r∉l
 drawn:∀r∈out,∃n a b,a∈l/\b∈l/\(Z36 n a b).2=true/\r=(Z36 n a b).1
structure DrawsOf(l out:List Qd):Prop extends DrIn l out where
 all:∀a∈l,∀b∈l,∀n,(Z36 n a b).2=true->(Z36 n a b).1∈l++out
def ObIn(base l:List Qd):Prop:=∀q∈l,∃t∈base,q.o=t.o
structure RInv(l m:List Qd):Prop where
 rise:Rise ZH m
 sub:∀q∈l,q∈m
 der:∀q∈m,Der l q
 ob:ObIn l m
end Go.Our
set_option maxRecDepth 20000
namespace Go.Our
open Go.Sx
end Go.Our
namespace Go.Sx
open Go
structure GHO(M:Mx)(O:Hps)(nx:Nat)(O1:Hps)(n1:Nat):Prop where
 out:∀η w,HeapOK M η w O nx->∃η',η<+:η'/\HeapOK M η' w O1 n1
section
variable {M:Mx}{fr:Fr}{O O1 O2:Hps}{nx n1 n2:Nat}
theorem GHO.refl:GHO M O nx O nx:=⟨fun η w H=>⟨η,List.prefix_rfl,H⟩⟩
theorem GHO.trans(h:GHO M O nx O1 n1)(k:GHO M O1 n1 O2 n2):GHO M O nx O2 n2:=
 ⟨fun η w H=>let⟨η1,p1,H1⟩:=h.out η w H;let⟨η2,p2,H2⟩:=k.out η1 w H1;⟨η2,p1.trans p2,H2⟩⟩
theorem GHO.goes(h:GHO M O nx O1 n1):GOES M fr O nx fr O1 n1:=
 ⟨fun η a w hm=>let⟨η',hp,H⟩:=h.out η w hm.heap;⟨η',H,hm.size,hm.nds,hm.defers.mono hp,Vj hp hm.ro,fun t v ht=>(hm.frame t v ht).mono hp⟩⟩
theorem GHO.loop{body:Code}{Q:Post}(h:GHO M O nx O1 n1)(k:LOOP M body fr O1 n1 Q):LOOP M body fr O nx Q:=LOOP.goes h.goes k
theorem GHO.call{f:FuncId}{args:List SV}{K:SV->Hps->Nat->Prop}(h:GHO M O nx O1 n1)(k:CALL M f args O1 n1 K):CALL M f args O nx K:=CALL.weak h.out k
theorem GHO.drawn{id:Nat}{ops:Array Oper}{Q:Post}(h:GHO M O nx O1 n1)(k:DRAWN M id ops fr O1 n1 Q):DRAWN M id ops fr O nx Q:=
 ⟨fun η a w hm=>let⟨η1,h1⟩:=(h.goes (fr:=fr)).out η a w hm;k.out η1 a w h1⟩
theorem GHO.fin{r:SV}{Q:SV->Hps->Nat->Prop}(h:GHO M O nx O1 n1)(k:FIN M O1 n1 r Q):FIN M O nx r Q:=
 ⟨fun η w v H hd=>let⟨η1,p1,H1⟩:=h.out η w H;k.out η1 w v H1 (hd.mono p1)⟩
theorem GHO.nilCell(i j es:Nat){row row':List SV}(hi:lkp i O=some (.box row))(hr:Z2g nx es j row=some row'):GHO M O nx ((nx, .rows es [])::setK i (.box row') O) (nx+1):=⟨fun η w H=>H.nilCell hi hr⟩
theorem GHO.putk(i r c k:Nat){mp:Bool}{es es' n:Nat}{rs:List (List DC)}{row:List DC}{rows:List (List SV)}(hi:lkp i O=some (.deep mp es rs))(hr:rs[r]?=some row)(hc:row[c]?=some (.v (.sl (.loc k) 0 es' n none)))
 (hk:lkp k O=some (.rows es' rows)) (hn:n<=rows.length) (hki:k≠i):GHO M O nx (delK k (setK i (.deep mp es (setC rs r c (.kid es' (rows.take n)))) O)) nx:=⟨fun η w H=>⟨η,List.prefix_rfl,H.putk hi hr hc hk hn hki⟩⟩
theorem ZV{m:Nat}{rs:List (List SV)}(h:Zn rs=true):Zs m (.mp rs)=true:=J1 m (h:= .mp rs) h
theorem FINDD.at{J:Type}{r:Option (Nat×DC)}{A:Nat->DC->J->Prop}{B:J->Prop}{j:J}{i:Nat}{d:DC}(h:r=some (i,d))(k:A i d j):FINDD r A B j:=
 ⟨fun i' d' h'=>by rw[h]at h';simp only[Option.some.injEq,Prod.mk.injEq]at h';obtain⟨rfl,rfl⟩:=h';exact k,fun h'=>by rw[h]at h';cases h'⟩
theorem HeapOK.anew{η:Env}{w:World}(H:HeapOK M η w O nx){i:Nat}{h h':Hp}(hi:lkp i O=some h)(hs:HpSat η w true (.loc i) h')(hk:∀n,feet η w (.loc i) h' n->feet η w (.loc i) h n):HeapOK M η w (setK i h' O) nx:=by
 have hin:∀{a g},lkp a (setK i h' O)=some g->∃g0,lkp a O=some g0/\HpSat η w true (.loc a) g/\∀n,feet η w (.loc a) g n->feet η w (.loc a) g0 n:=by
  intro a g ha;rw[Y2 _ _ _ _ (by rw[hi];rfl)]at ha;split at ha
  ·rename_i e;subst e;injection ha with ha;subst ha;exact⟨_,hi,hs,hk⟩
  ·exact⟨g,ha,(H.own.1 _ _ ha).1,fun n f=>f⟩
 refine⟨H.pre,H.len,⟨fun a g ha=>?_,fun a b g g' n ha hb hab f f'=>?_⟩,H.fr,H.sok⟩
 ·obtain⟨g0,h1,h2,h3⟩:=hin ha;exact⟨h2,fun n f=>(H.own.1 a g0 h1).2 n (h3 n f)⟩
 ·obtain⟨g0,h1,_,h3⟩:=hin ha;obtain⟨g0',h1',_,h3'⟩:=hin hb;exact H.own.2 a b g0 g0' n h1 h1' hab (h3 n f) (h3' n f')
def Deepens:List SV->List DC->Prop
 | [],[]=>True
 |s::r,d::ds=>(d= .v s\/(s= .val (.slice none 0 0)/\∃e,d= .kid e []))/\Deepens r ds
 |_,_=>False
theorem Deepens.len:∀{r:List SV} {ds:List DC},Deepens r ds->ds.length=r.length
 | [],[],_=>rfl
 |s::r,d::ds,h=>by simp[Deepens.len h.2]
 | [],_::_,h=>h.elim
 |_::_,[],h=>h.elim
theorem Deepens.get:∀{r:List SV} {ds:List DC},Deepens r ds->∀{c:Nat} {d:DC},ds[c]?=some d->∃s,r[c]?=some s/\(d= .v s\/(s= .val (.slice none 0 0)/\∃e,d= .kid e []))
 |s::r,d::ds,h,0,d',hc=>by simp at hc;subst hc;exact⟨s,rfl,h.1⟩
 |s::r,d::ds,h,c+1,d',hc=>by simpa using Deepens.get h.2 (by simpa using hc)
 | [],[],_,c,d,hc=>by simp at hc
 | [],_::_,h,_,_,_=>h.elim
 |_::_,[],h,_,_,_=>h.elim
def Z8i(rs:List (List SV))(ds:List (List DC)):Prop:=ds.length=rs.length/\∀(a:Nat) (row':List DC),ds[a]?=some row'->∃row,rs[a]?=some row/\Deepens row row'
theorem GHO.deepen(i:Nat){es:Nat}{rs:List (List SV)}(ds:List (List DC))(hi:lkp i O=some (.rows es rs))(hd:Z8i rs ds):GHO M O nx (setK i (.deep false es ds) O) nx:=by
 refine⟨fun η w H=>⟨η,List.prefix_rfl,?_⟩⟩;have hsat:RowsSat η w true (.loc i) es rs:=(H.own.1 i _ hi).1
 have hkid:∀{a b x},YC ds a b=some x->x.2=[]/\∃row,rs[a]?=some row/\row[b]?=some (.val (.slice none 0 0)):=by
  intro a b x hx;obtain⟨x1,x2⟩:=x;obtain⟨row',h1,h2⟩:=kidAt_some.1 hx;obtain⟨row,h3,h4⟩:=hd.2 a row' h1;obtain⟨s,h5,h6⟩:=h4.get h2;rcases h6 with h6|⟨rfl,e,h6⟩
  ·cases h6
  ·injection h6 with _ h6;exact⟨h6,row,h3,h5⟩
 have hcell:∀{e o a b x},η.get (.loc i)=some (some e)->w.heap[e.g]?=some o->YC ds a b=some x->e.base=0/\x.2=[]/\ZW o es a b=some (.slice none 0 0):=by
  intro e o a b x he ho hx;obtain⟨h0,row,h1,h2⟩:=hkid hx;rcases hsat with⟨h3,_⟩|⟨e',arr,T,fz,h3,h4,h5,h6⟩
  ·rw[h3]at he;cases he
  rw[h3]at he;injection he with he;injection he with he;subst he
  rw[h4]at ho;injection ho with ho;subst ho
  have hb:=(h5 rfl).2.2.2;obtain⟨v,h7,_,h8⟩:=(h6 a row h1).2 b _ h2;rw[hb,Nat.zero_add]at h7;exact⟨hb,h0,by rw[<-h8.1];exact h7⟩
 refine H.anew hi (HpSat.deep_of (mp:=false) ?_ (fun h=>by cases h) fun e he=>?_) fun n f=>?_
 ·rcases hsat with⟨h3,h4⟩|⟨e',arr,T,fz,h3,h4,h5,h6⟩
  ·refine .inl ⟨h3,List.length_eq_zero_iff.1 ?_⟩;rw[Y4,hd.1,h4];rfl
  ·refine .inr ⟨e',arr,T,fz,h3,h4,fun h=>by have:=h5 h;rwa [Y4,hd.1],fun a row' ha=>?_⟩;rw[Yk]at ha;obtain⟨row1,h7,rfl⟩:=Option.map_eq_some_iff.1 ha;obtain⟨row,h8,h9⟩:=hd.2 a row1 h7;obtain⟨g1,g2⟩:=h6 a row h8;refine⟨by rw[List.length_map,h9.len];exact g1,fun c sv hc=>?_⟩;rw[List.getElem?_map]at hc;obtain⟨d,h10,rfl⟩:=Option.map_eq_some_iff.1 hc;obtain⟨s,h11,h12⟩:=h9.get h10;obtain⟨v,k1,k2,k3⟩:=g2 c s h11;rcases h12 with rfl|⟨rfl,e,rfl⟩
   ·exact⟨v,k1,k2,k3⟩
   ·exact⟨v,k1,k2,trivial⟩
 ·have hb:e.base=0:=by
   rcases hsat with⟨h3,_⟩|⟨e',arr,T,fz,h3,h4,h5,h6⟩
   ·rw[h3]at he;cases he
   ·rw[h3]at he;injection he with he;injection he with he;subst he;exact(h5 rfl).2.2.2
  refine⟨hb,fun o ho=>⟨fun a b es' rows hk=>?_,fun a b a' b' x x' v v' k h1 h2 h3 h4 h5 h6=>?_⟩⟩
  ·obtain⟨_,h1,h2⟩:=hcell he ho hk;simp only at h1;subst h1;exact⟨_,h2, .inl ⟨rfl,rfl⟩,by simp[Value.ownBlock]⟩
  ·obtain⟨_,_,g2⟩:=hcell he ho h1;rw[g2]at h3;injection h3 with h3;subst h3;cases h5
 ·obtain⟨e,he,f⟩:=f;rcases f with rfl|f
  ·exact feet.own he
  ·simp only[kid]at f;obtain⟨o,a,b,x,v,h1,h2,h3,h4⟩:=f;obtain⟨_,_,g2⟩:=hcell he h1 h2;rw[g2]at h3;injection h3 with h3;subst h3;cases h4
theorem GHO.nilk(i r c es':Nat){mp:Bool}{es:Nat}{rs:List (List DC)}{row:List DC}(hi:lkp i O=some (.deep mp es rs))(hr:rs[r]?=some row)(hc:row[c]?=some (.v (.val (.slice none 0 0)))):GHO M O nx (setK i (.deep mp es (setC rs r c (.kid es' []))) O) nx:=
 ⟨fun η w H=>⟨η,List.prefix_rfl,H.nilk hi hr hc⟩⟩
theorem GHO.take(i r c:Nat){mp:Bool}{es es':Nat}{rs:List (List DC)}{row:List DC}{rows:List (List SV)}(hi:lkp i O=some (.deep mp es rs))(hr:rs[r]?=some row)(hc:row[c]?=some (.kid es' rows)):
 GHO M O nx ((nx, .rows es' rows)::setK i (.deep mp es (setC rs r c (.v (.sl (.loc nx) 0 es' rows.length none)))) O) (nx+1):=
 ⟨fun η w H=>let⟨x,h⟩:=H.take hi hr hc;⟨η++ [x],List.prefix_append _ _,h⟩⟩
theorem LOOP.reach{body:Code}{Q:Post}(t:Tmp){k es n:Nat}(ht:lkp t fr=some (.sl (.loc k) 0 es n none))(hn:0<n)(hd:t≠DS)(K:∀L,n<=L->LOOP M body ((t, .sl (.loc k) 0 es n (some L))::fr) O nx Q):LOOP M body fr O nx Q:=by
 refine⟨fun η a w hm=>?_⟩;have h:=hm.frame t _ ht
 obtain⟨L,hL,hD⟩:∃L,n<=L/\Den η (.sl (.loc k) 0 es n (some L)) (a.tmps.getD t undef):=by
  simp only[Den]at h⊢;rcases h with⟨_,_,h0⟩|⟨e,o,h1,h2,h3,h4,h5⟩
  ·omega
  ·exact⟨e.cap,by simpa using h3, .inr ⟨e,o,h1,by simpa using h2,by simpa using h3,by simp,by simpa using h5⟩⟩
 refine(K L hL).out η a w ⟨hm.heap,hm.size,hm.nds,?_,hm.ro,fun t' v ht'=>?_⟩
 ·rw[Z8,if_neg (Ne.symm hd)];exact hm.defers
 ·rw[Z8]at ht';split at ht'
  ·rename_i e;subst e;injection ht' with ht';subst ht';exact hD
  ·exact hm.frame t' v ht'
theorem Z6c{rs:List (List DC)}{r:Nat}{d:DC}{sv:SV}(h:rs[r]?=some [d]):(ZC (setC rs r 0 (.v sv)))[r]?=some [sv]:=by
 rw[Yk,ZR,if_pos rfl,h];rfl
end
end Go.Sx
namespace Go.Proofs.YtbfbokdccdagkaaGreatDoor
open Go.Sx Go.Our
def XC(p:Pr):List SV:=[.str p.1, .str p.2]
theorem Zh(l:List Pr):Zn (l.map XC)=true:=Yb _ (fun _=>rfl) l
instance :PlF XC:=⟨fun _=>rfl⟩
theorem Z3L{l z:List Pr}{i k:Nat}(h:i<l.length)(e:k=i):((l++z).map XC)[k]?=some (XC l[i]):=by subst e;rw[List.getElem?_map,List.getElem?_append_left h,List.getElem?_eq_getElem h];rfl
end Go.Proofs.YtbfbokdccdagkaaGreatDoor
namespace Go.Our
open Go.Sx
abbrev KS:Bool×List CK:=(false,[CK.str])
theorem Z6f(a b:List UInt8):W6 KS (.str a) (.str b)=(a==b):=by simp[W6,JY,ZY,Zg]
theorem Ve(a:List UInt8):Jg KS (.str a)=true:=by simp[Jg,JY,ZY,Zg]
def StrRows(rs:List (List SV)):Prop:=∀r∈rs,∃(k:List UInt8) (v:SV),r=[.str k,v]
theorem StrRows.ok{rs:List (List SV)}(h:StrRows rs):V4 KS rs:=fun r hr=>let⟨k,v,e⟩:=h r hr;⟨_,v,e,Ve k⟩
def valM(rs:List (List SV))(a:List UInt8):Option SV:=(YM KS (.str a) 0 rs).map Prod.snd
theorem Z3N(key:SV):∀(rs:List (List SV)) (i j:Nat),(YM KS key i rs).map Prod.snd=(YM KS key j rs).map Prod.snd
 | [],i,j=>rfl
 |r::rs,i,j=>by
  unfold YM;split
  ·split
   ·rfl
   ·exact Z3N key rs (i+1) (j+1)
  ·rfl
theorem J5(k a:List UInt8)(v:SV)(rs:List (List SV)):valM ([.str k,v]::rs) a=if a=k then some v else valM rs a:=by
 unfold valM;conv=>lhs;unfold YM
 simp only[Z6f];by_cases e:a=k
 ·subst e;simp
 ·have:(a==k)=false:=by simpa using e
  rw[this,if_neg e];exact Z3N _ rs 1 0
theorem Z7m{rs:List (List SV)}(h:StrRows rs)(k a:List UInt8)(v:SV)(hk:valM rs k=none):valM (rs++ [[.str k,v]]) a=if a=k then some v else valM rs a:=by
 induction rs with
 |nil=>rw[List.nil_append,J5]
 |cons r rs ih=>
  obtain⟨k',v',rfl⟩:=h r (List.mem_cons_self ..);rw[J5]at hk;have hne:k≠k':=fun e=>by rw[if_pos e]at hk;cases hk
  rw[if_neg hne]at hk;rw[List.cons_append,J5,J5,ih (fun r hr=>h r (List.mem_cons_of_mem _ hr)) hk];by_cases e:a=k'
  ·subst e;rw[if_pos rfl,if_pos rfl,if_neg (fun e=>hne e.symm)]
  ·rw[if_neg e,if_neg e]
theorem Z2x{k:List UInt8}{v:SV}:∀{rs:List (List SV)} (h:StrRows rs) {i j:Nat} {u:SV} (hf:YM KS (.str k) i rs=some (i+j,u)) (a:List UInt8),StrRows (rs.modify j (putV v))/\valM (rs.modify j (putV v)) a=if a=k then some v else valM rs a
 | [],h,i,j,u,hf,a=>by simp[YM]at hf
 |r::rs,h,i,j,u,hf,a=>by
  obtain⟨k',v',rfl⟩:=h r (List.mem_cons_self ..);have ht:StrRows rs:=fun r hr=>h r (List.mem_cons_of_mem _ hr);unfold YM at hf;simp only[Z6f]at hf;by_cases e:k=k'
  ·subst e;simp at hf;obtain⟨rfl,_⟩:=hf;rw[List.modify_zero_cons];refine⟨fun r hr=>?_,?_⟩
   ·rcases List.mem_cons.1 hr with rfl|hr
    ·exact⟨k,v,rfl⟩
    ·exact ht r hr
   ·show valM ([.str k,v]::rs) a=_
    rw[J5,J5];by_cases e:a=k
    ·rw[if_pos e,if_pos e]
    ·rw[if_neg e,if_neg e,if_neg e]
  ·have hb:(k==k')=false:=by simpa using e
   rw[hb]at hf;simp only at hf;cases j with
   |zero=>
    have hge:∀(rs:List (List SV)) (m n:Nat) (x:SV),YM KS (.str k) m rs=some (n,x)->m<=n:=by
     intro rs
     induction rs with
     |nil=>intro m n x hh;simp[YM]at hh
     |cons r rs ih=>
      intro m n x hh;unfold YM at hh;split at hh
      ·split at hh
       ·injection hh with hh;injection hh with h1 h2;omega
       ·have:=ih _ _ _ hh;omega
      ·cases hh
    have:=hge _ _ _ _ hf;omega
   |succ j=>
    obtain⟨h1,h2⟩:=Z2x ht (i:=i+1) (j:=j) (u:=u) (by rw[hf,show i+1+j=i+(j+1)by omega]) a;rw[List.modify_succ_cons];refine⟨fun r hr=>?_,?_⟩
    ·rcases List.mem_cons.1 hr with rfl|hr
     ·exact⟨k',v',rfl⟩
     ·exact h1 r hr
    ·rw[J5,J5,h2];by_cases e2:a=k'
     ·subst e2;rw[if_pos rfl,if_pos rfl,if_neg (fun e3=>e e3.symm)]
     ·rw[if_neg e2,if_neg e2]
theorem WE{rs:List (List SV)}(h:StrRows rs)(k:List UInt8)(v:SV)(a:List UInt8):StrRows (setM KS (.str k) v rs)/\valM (setM KS (.str k) v rs) a=if a=k then some v else valM rs a:=by
 unfold setM;cases hf:YM KS (.str k) 0 rs with
 |none=>
  simp only;refine⟨fun r hr=>?_,Z7m h k a v (by unfold valM;rw[hf];rfl)⟩;rcases List.mem_append.1 hr with hr|hr
  ·exact h r hr
  ·have:=List.mem_singleton.1 hr;subst this;exact⟨k,v,rfl⟩
 |some x=>
  obtain⟨j,u⟩:=x;simp only;exact Z2x h (i:=0) (j:=j) (u:=u) (by rw[hf,Nat.zero_add]) a
def Je(ps:List Pr):Nat->List (List SV)
 |0=>[]
 |n+1=>setM KS (.str (ps.getD (ps.length-(n+1)) ([],[])).1) (.int .i64 ((ps.length-(n+1):Nat):Int)) (Je ps n)
theorem JH(ps:List Pr):∀n,StrRows (Je ps n)
 |0=>fun r hr=>by cases hr
 |n+1=>(WE (JH ps n) _ _ []).1
theorem Z3O(ps:List Pr)(a:List UInt8):∀n,n<=ps.length->valM (Je ps n) a=((ps.drop (ps.length-n)).findIdx? fun p=>decide (p.1=a)).map fun i=>SV.int .i64 ((ps.length-n+i:Nat):Int)
 |0,h=>by rw[Nat.sub_zero,List.drop_length];rfl
 |n+1,h=>by
  have hlt:ps.length-(n+1)<ps.length:=by omega
  have hd:ps.drop (ps.length-(n+1))=ps[ps.length-(n+1)]::ps.drop (ps.length-n):=by
   rw[List.drop_eq_getElem_cons hlt,show ps.length-(n+1)+1=ps.length-n by omega]
  have hg:ps.getD (ps.length-(n+1)) ([],[])=ps[ps.length-(n+1)]:=by simp[List.getD,hlt]
  unfold Je;rw[(WE (JH ps n) _ _ a).2,Z3O ps a n (by omega),hd,hg,List.findIdx?_cons];by_cases e:ps[ps.length-(n+1)].1=a
  ·rw[if_pos e.symm,decide_eq_true e];simp
  ·rw[if_neg (fun h=>e h.symm),decide_eq_false e];simp only[Bool.false_eq_true,if_false,Option.map_map];congr 1;funext i;simp only[Function.comp];rw[show ps.length-(n+1)+(i+1)=ps.length-n+i by omega]
theorem Z6g(ps:List Pr)(a:List UInt8):valM (Je ps ps.length) a=(ps.findIdx? fun p=>decide (p.1=a)).map fun(i:Nat)=>SV.int .i64 (i:Int):=by
 have:=Z3O ps a ps.length (Nat.le_refl _);simpa using this
end Go.Our
namespace Go.Our
open Go.Sx Go.Lib
def Zdm(l:List UInt8):Nat:=l.foldl (fun a c=>a*10+(c.toNat-48)) 0
theorem Z6h(u:Nat):Zdm (decDigits u)=u:=by
 induction u using Nat.strongRecOn with
 |_ u ih=>
  rw[decDigits];split
  ·rename_i h;simp only[Zdm,List.foldl_cons,List.foldl_nil,Nat.zero_mul,Nat.zero_add,UInt8.toNat_ofNat'];omega
  ·rename_i h;have:=ih (u/10) (by omega);unfold Zdm at this⊢;rw[List.foldl_append,this];simp only[List.foldl_cons,List.foldl_nil,UInt8.toNat_ofNat'];omega
def Zhl(s:List UInt8):List SV:=[.str s]
instance :PlF Zhl:=⟨fun _=>rfl⟩
theorem Zbt{rs:List (List SV)}(h:Zn rs=true)(k:List UInt8)(i:Int):Zn (setM KS (.str k) (.int .i64 i) rs)=true:=by
 have iff:∀rs:List (List SV),Zn rs=true<->∀r∈rs,YB r=true:=by
  intro rs
  induction rs with
  |nil=>simp[Zn]
  |cons r rs ih=>simp[Zn,ih]
 rw[iff]at h⊢;unfold setM;split
 ·intro r hr;obtain⟨j,hj,rfl⟩:=List.mem_iff_getElem.1 hr;rw[List.getElem_modify];have h0:=h (rs[j]'(by simpa using hj)) (List.getElem_mem _);split
  ·generalize rs[j]'(by simpa using hj)=r0 at h0;unfold putV;split
   ·simp only[YB,plain,Bool.and_true]at h0⊢;simpa using(by simpa using h0:plain _=true/\plain _=true).1
   ·exact h0
  ·exact h0
 ·intro r hr;rcases List.mem_append.1 hr with hr|hr
  ·exact h r hr
  ·have:=List.mem_singleton.1 hr;subst this;rfl
structure Cnt(l:List (List UInt8))(rs:List (List SV)):Prop where
 str:StrRows rs
 plain:Zn rs=true
 out:∀a,a∉l->valM rs a=none
 mem:∀a,a∈l->∃k:Nat,0<k/\k<=l.length/\valM rs a=some (.int .i64 (k:Int))
theorem Cnt.nil:Cnt [] []:=⟨fun _ h=>(List.not_mem_nil h).elim,rfl,fun _ _=>rfl,fun _ h=>(List.not_mem_nil h).elim⟩
theorem Cnt.step{l:List (List UInt8)}{rs:List (List SV)}(h:Cnt l rs)(s:List UInt8){k:Nat}(h0:0<k)(h1:k<=l.length+1):Cnt (l++ [s]) (setM KS (.str s) (.int .i64 (k:Int)) rs):=by
 refine⟨(WE h.str s _ []).1,Zbt h.plain s _,fun a ha=>?_,fun a ha=>?_⟩
 ·rw[List.mem_append,List.mem_singleton,not_or]at ha;rw[(WE h.str s _ a).2,if_neg ha.2];exact h.out a ha.1
 ·rw[(WE h.str s _ a).2];by_cases e:a=s
  ·rw[if_pos e];exact⟨k,h0,by simpa using h1,rfl⟩
  ·rw[if_neg e];have:a∈l:=by simpa[e]using ha
   obtain⟨k',g0,g1,g2⟩:=h.mem a this;exact⟨k',g0,by simp;omega,g2⟩
theorem Cnt.found{l:List (List UInt8)}{rs:List (List SV)}(h:Cnt l rs){s:List UInt8}{i:Nat}{v:SV}(hf:YM KS (.str s) 0 rs=some (i,v)):s∈l/\∃k:Nat,0<k/\k<=l.length/\v= .int .i64 (k:Int):=by
 have h1:valM rs s=some v:=by unfold valM;rw[hf];rfl
 by_cases hs:s∈l
 ·obtain⟨k,g0,g1,g2⟩:=h.mem s hs;rw[h1]at g2;injection g2 with g2;exact⟨hs,k,g0,g1,g2⟩
 ·rw[h.out s hs]at h1;cases h1
end Go.Our
namespace Go.Our
def bijM(x y:List (List UInt8))(ps:List Pr):Bool:=
 decide (ps.length=x.length)&&decide (x.length=y.length)&&decide ((ps.map Prod.fst).mergeSort (leC cmpL)=x)&&decide ((ps.map Prod.snd).mergeSort (leC cmpL)=y)
section
variable {α:Type}[DecidableEq α]{c:α->α->Int}
theorem Ye(h:Tri c){l:List α}(hl:Rise c l):l.Nodup:=List.Pairwise.imp (fun h1=>h.ne h1) hl
theorem Us(h:Tri c):∀{l m:List α},l.Pairwise (fun a b=>c a b<=0)->m.Pairwise (fun a b=>c a b<=0)->l.Perm m->l=m
 | [],m,_,_,hp=>(List.nil_perm.1 hp).symm
 |x::l,[],_,_,hp=>by have:=hp.length_eq;simp at this
 |x::l,y::m,hl,hm,hp=>by
  have hl':=List.pairwise_cons.1 hl;have hm':=List.pairwise_cons.1 hm
  have h1:c x y<=0:=by
   rcases List.mem_cons.1 (hp.mem_iff.2 (List.mem_cons_self ..):y∈x::l)with e|e
   ·rw[e,h.self];omega
   ·exact hl'.1 _ e
  have h2:c y x<=0:=by
   rcases List.mem_cons.1 (hp.mem_iff.1 (List.mem_cons_self ..):x∈y::m)with e|e
   ·rw[e,h.self];omega
   ·exact hm'.1 _ e
  have e:x=y:=(h.zero x y).1 (by have:=h.anti x y;omega);subst e;rw[Us h hl'.2 hm'.2 (List.perm_cons _|>.1 hp)]
theorem U0(h:Tri c)(l:List α):(l.mergeSort (leC c)).Pairwise (fun a b=>c a b<=0):=by
 have:=List.pairwise_mergeSort (le:=leC c) (fun a b d h1 h2=>by rw[VU h]at*;exact h.trans a b d h1 h2) (fun a b=>by
  have:=h.anti a b
  rw[Bool.or_eq_true,VU h,VU h];omega) l
 exact this.imp fun h1=>(VU h).1 h1
theorem Z1e(h:Tri c){l x:List α}(hx:Rise c x):l.mergeSort (leC c)=x<->l.Perm x:=
 ⟨fun e=>by rw[<-e];exact(List.mergeSort_perm l _).symm,fun hp=>Us h (U0 h l) (hx.imp fun h1=>by omega) ((List.mergeSort_perm l _).trans hp)⟩
theorem Zbu:∀{x l:List α},x.Nodup->l.length=x.length->(∀z∈x,z∈l)->l.Perm x
 | [],l,_,hl,_=>by
   have:l=[]:=List.length_eq_zero_iff.1 (by simpa using hl);rw[this]
 |z::x,l,hn,hl,hs=>by
  have hn':=List.nodup_cons.1 hn;have hz:=hs z (List.mem_cons_self ..);have:=Zbu (x:=x) (l:=l.erase z) hn'.2 (by rw[List.length_erase_of_mem hz,hl];simp) (fun w hw=>(List.mem_erase_of_ne (fun(e:w=z)=>hn'.1 (by rw[<-e];exact hw))).2 (hs w (List.mem_cons_of_mem _ hw)));exact(List.perm_cons_erase hz).trans (this.cons z)
end
theorem Zdn{x y:List (List UInt8)}{ps:List Pr}(h:¬ps.length=x.length):bijM x y ps=false:=by unfold bijM;simp[h]
theorem Zdo{x y:List (List UInt8)}{ps:List Pr}(h:¬x.length=y.length):bijM x y ps=false:=by unfold bijM;simp[h]
end Go.Our
namespace Go.Our
open Go.Sx Go.Lib
theorem Z2y(u:Nat):∀c∈decDigits u,48<=c.toNat/\c.toNat<=57:=by
 induction u using Nat.strongRecOn with
 |_ u ih=>
  rw[decDigits];intro c hc;split at hc
  ·rw[List.mem_singleton.1 hc,UInt8.toNat_ofNat'];omega
  ·rcases List.mem_append.1 hc with hc|hc
   ·exact ih (u/10) (by omega) c hc
   ·rw[List.mem_singleton.1 hc,UInt8.toNat_ofNat'];omega
theorem Zbv{n:Int}{c:UInt8}(h:c∈itoa n):c=45\/48<=c.toNat/\c.toNat<=57:=by
 unfold itoa at h;split at h
 ·rcases List.mem_cons.1 h with h|h
  ·exact .inl h
  ·exact .inr (Z2y _ _ h)
 ·exact .inr (Z2y _ _ h)
theorem Zbw{u v:Nat}(h:decDigits u=decDigits v):u=v:=by
 have:=congrArg Zdm h;rwa [Z6h,Z6h]at this
theorem Zeo{u:Nat}{l:LB}(h:decDigits u=45::l):False:=by
 have:=Z2y u 45 (by rw[h];exact List.mem_cons_self ..);revert this;decide
theorem Zdp{a b:Int}(h:itoa a=itoa b):a=b:=by
 unfold itoa at h;split at h<;>split at h
 ·have:=Zbw (List.cons.inj h).2;omega
 ·exact(Zeo h.symm).elim
 ·exact(Zeo h).elim
 ·have:=Zbw h;omega
theorem Zep{d:UInt8}:∀{a b r s:LB},d∉a->d∉b->a++d::r=b++d::s->a=b/\r=s
 | [],[],_,_,_,_,h=>⟨rfl,(List.cons.inj h).2⟩
 | [],y::b,_,_,_,hb,h=>(hb (by rw[(List.cons.inj h).1];exact List.mem_cons_self ..)).elim
 |x::a,[],_,_,ha,_,h=>(ha (by rw[<-(List.cons.inj h).1];exact List.mem_cons_self ..)).elim
 |x::a,y::b,r,s,ha,hb,h=>by
  obtain⟨h1,h2⟩:=List.cons.inj h;obtain⟨h3,h4⟩:=Zep (fun hm=>ha (List.mem_cons_of_mem _ hm)) (fun hm=>hb (List.mem_cons_of_mem _ hm)) h2;exact⟨by rw[h1,h3],h4⟩
theorem Z1f{a b:Int}{d:UInt8}{r s:LB}(hd:d≠45)(hr:d.toNat<48\/57<d.toNat)(h:itoa a++d::r=itoa b++d::s):a=b/\r=s:=by
 have hn:∀n:Int,d∉itoa n:=fun n hm=>by
  rcases Zbv hm with e|e
  ·exact hd e
  ·omega
 obtain⟨h1,h2⟩:=Zep (hn a) (hn b) h;exact⟨Zdp h1,h2⟩
structure Seen where
 self:Bool
 cls:Int
 tm:Tm
 deriving DecidableEq
def Z6i(s:Seen):Prop:=0<=s.cls/\(s.self=true->s.cls=0/\s.tm=Y6)/\(0<s.cls->s.tm=Y6)
def Z0X(s:LB):LB:=61::(itoa (s.length:Int)++58::s)
def Z9p(t:Tm):LB:=Z0X t.t++(Z0X t.y++(Z0X t.l++itoa t.k))
def Vf(s:Seen):LB:=(if s.self=true then [64]else if 0<s.cls then 35::itoa (s.cls-1)else Z9p s.tm)++ [32]
theorem Z4O{a b r s:LB}(h:Z0X a++r=Z0X b++s):a=b/\r=s:=by
 unfold Z0X at h;simp only[List.cons_append,List.append_assoc]at h;obtain⟨h1,h2⟩:=Z1f (by decide) (by decide) (List.cons.inj h).2;exact List.append_inj h2 (by omega)
theorem Z1g{a b:Seen}{r s:LB}(ha:Z6i a)(hb:Z6i b)(h:Vf a++r=Vf b++s):a=b/\r=s:=by
 obtain⟨sa,ca,ta⟩:=a;obtain⟨sb,cb,tb⟩:=b;obtain⟨a1,a2,a3⟩:=ha;obtain⟨b1,b2,b3⟩:=hb;simp only at a1 a2 a3 b1 b2 b3;unfold Vf at h;simp only[List.append_assoc]at h;have e61:∀t:Tm,∀w,Z9p t++w=61::(itoa (t.t.length:Int)++58::(t.t++(Z0X t.y++(Z0X t.l++(itoa t.k++w))))):=fun t w=>by unfold Z9p;rw[Z0X];simp
 cases sa
 ·cases sb
  ·simp only[Bool.false_eq_true,if_false]at h;by_cases ea:0<ca
   ·by_cases eb:0<cb
    ·rw[if_pos ea,if_pos eb]at h;obtain⟨h1,h2⟩:=Z1f (d:=32) (by decide) (by decide) (List.cons.inj h).2;have hc:ca=cb:=by omega
     subst hc;rw[a3 ea,b3 ea];exact⟨rfl,h2⟩
    ·rw[if_pos ea,if_neg eb,e61]at h;exact absurd (List.cons.inj h).1 (by decide)
   ·by_cases eb:0<cb
    ·rw[if_neg ea,if_pos eb,e61]at h;exact absurd (List.cons.inj h).1 (by decide)
    ·rw[if_neg ea,if_neg eb]at h;unfold Z9p at h;simp only[List.append_assoc]at h;obtain⟨h1,h⟩:=Z4O h;obtain⟨h2,h⟩:=Z4O h;obtain⟨h3,h⟩:=Z4O h;obtain⟨h4,h5⟩:=Z1f (d:=32) (by decide) (by decide) h;have hc:ca=cb:=by omega
     obtain⟨k,t,y,l⟩:=ta;obtain⟨k',t',y',l'⟩:=tb;simp only at h1 h2 h3 h4;subst hc h1 h2 h3 h4;exact⟨rfl,h5⟩
  ·simp only[Bool.false_eq_true,if_false,if_true]at h;by_cases ea:0<ca
   ·rw[if_pos ea]at h;exact absurd (List.cons.inj h).1 (by decide)
   ·rw[if_neg ea,e61]at h;exact absurd (List.cons.inj h).1 (by decide)
 ·cases sb
  ·simp only[Bool.false_eq_true,if_false,if_true]at h;by_cases eb:0<cb
   ·rw[if_pos eb]at h;exact absurd (List.cons.inj h).1 (by decide)
   ·rw[if_neg eb,e61]at h;exact absurd (List.cons.inj h).1 (by decide)
  ·simp only[if_true]at h;obtain⟨c1,t1⟩:=a2 rfl;obtain⟨c2,t2⟩:=b2 rfl;subst c1 t1 c2 t2;exact⟨rfl,by simpa using h⟩
structure Sg where
 a:Seen
 b:Seen
 c:Seen
 d:Seen
 deriving DecidableEq
def Z6j(s:Sg):Prop:=Z6i s.a/\Z6i s.b/\Z6i s.c/\Z6i s.d
def Xc(s:Sg):LB:=Vf s.a++(Vf s.b++(Vf s.c++Vf s.d))
theorem Z6k{a b:Sg}{r s:LB}(ha:Z6j a)(hb:Z6j b)(h:Xc a++r=Xc b++s):a=b/\r=s:=by
 unfold Xc at h;simp only[List.append_assoc]at h;obtain⟨h1,h⟩:=Z1g ha.1 hb.1 h;obtain⟨h2,h⟩:=Z1g ha.2.1 hb.2.1 h;obtain⟨h3,h⟩:=Z1g ha.2.2.1 hb.2.2.1 h;obtain⟨h4,h5⟩:=Z1g ha.2.2.2 hb.2.2.2 h;obtain⟨p,q,u,v⟩:=a;obtain⟨p',q',u',v'⟩:=b;simp only at h1 h2 h3 h4;subst h1 h2 h3 h4;exact⟨rfl,h5⟩
theorem Zbx{a b:Sg}(ha:Z6j a)(hb:Z6j b)(h:Xc a=Xc b):a=b:=(Z6k (r:=[]) (s:=[]) ha hb (by rw[h])).1
theorem Zdq(s:Sg):Xc s≠ []:=by
 unfold Xc Vf;simp
def V3:List LB->LB
 | []=>[]
 |a::l=>10::(a++V3 l)
def UB:List LB->LB
 | []=>[]
 |a::l=>a++V3 l
def IsSg(t:LB):Prop:=∃s,Z6j s/\t=Xc s
theorem IsSg.ne{t:LB}(h:IsSg t):t≠ []:=by obtain⟨s,_,rfl⟩:=h;exact Zdq s
theorem IsSg.cut{a b r s:LB}(ha:IsSg a)(hb:IsSg b)(h:a++r=b++s):a=b/\r=s:=by
 obtain⟨x,hx,rfl⟩:=ha;obtain⟨y,hy,rfl⟩:=hb;obtain⟨h1,h2⟩:=Z6k hx hy h;exact⟨by rw[h1],h2⟩
theorem Z8l:∀{l m:List LB},(∀t∈l,IsSg t)->(∀t∈m,IsSg t)->V3 l=V3 m->l=m
 | [],[],_,_,_=>rfl
 | [],b::m,_,_,h=>by simp[V3]at h
 |a::l,[],_,_,h=>by simp[V3]at h
 |a::l,b::m,ha,hb,h=>by
  obtain⟨h1,h2⟩:=(ha a (List.mem_cons_self ..)).cut (hb b (List.mem_cons_self ..)) (List.cons.inj h).2;rw[h1,Z8l (fun t ht=>ha t (List.mem_cons_of_mem _ ht)) (fun t ht=>hb t (List.mem_cons_of_mem _ ht)) h2]
theorem Zdr:∀{l m:List LB},(∀t∈l,IsSg t)->(∀t∈m,IsSg t)->UB l=UB m->l=m
 | [],[],_,_,_=>rfl
 | [],b::m,_,hb,h=>by have:=(hb b (List.mem_cons_self ..)).ne;simp[UB]at h;exact(this h.1).elim
 |a::l,[],ha,_,h=>by have:=(ha a (List.mem_cons_self ..)).ne;simp[UB]at h;exact(this h.1).elim
 |a::l,b::m,ha,hb,h=>by
  obtain⟨h1,h2⟩:=(ha a (List.mem_cons_self ..)).cut (hb b (List.mem_cons_self ..)) h;rw[h1,Z8l (fun t ht=>ha t (List.mem_cons_of_mem _ ht)) (fun t ht=>hb t (List.mem_cons_of_mem _ ht)) h2]
theorem Z8m{α β:Type}{f:α->β}{p:α->Prop}(hf:∀a b,p a->p b->f a=f b->a=b):∀{l m:List α},(∀x∈l,p x)->(∀x∈m,p x)->(l.map f).Perm (m.map f)->l.Perm m
 | [],m,_,_,h=>by
   have:m=[]:=by have:=h.length_eq;simpa using this.symm
   rw[this]
 |a::l,m,hl,hm,h=>by
  have ha:f a∈m.map f:=h.mem_iff.1 (List.mem_cons_self ..);obtain⟨b,hb,e⟩:=List.mem_map.1 ha;have hab:=hf b a (hm b hb) (hl a (List.mem_cons_self ..)) e;subst hab;obtain⟨m1,m2,rfl⟩:=List.append_of_mem hb;have h2:(b::(m1++m2)).Perm (m1++b::m2):=List.perm_middle.symm;have h3:=h.trans (h2.map f).symm;simp only[List.map_cons]at h3;have h4:=List.Perm.cons_inv h3;exact((Z8m hf (fun x hx=>hl x (List.mem_cons_of_mem _ hx)) (fun x hx=>hm x (h2.mem_iff.1 (List.mem_cons_of_mem _ hx))) h4).cons b).trans h2
def seeM(cl:List Int)(x:Nat)(n:Int)(t:Tm):Seen:=if n<0 then⟨false,0,t⟩else if n=(x:Int)then⟨true,0,Y6⟩else⟨false,1+cl.getD n.toNat 0,Y6⟩
def sgM(cl:List Int)(x:Nat)(s:Sd):Sg:=⟨seeM cl x s.a s.q.s,seeM cl x s.b s.q.p,seeM cl x s.c s.q.o,seeM cl x s.d s.q.g⟩
theorem Z1h{cl:List Int}(hc:∀c∈cl,0<=c)(x:Nat)(n:Int)(t:Tm):Z6i (seeM cl x n t):=by
 unfold seeM Z6i;split
 ·exact⟨Int.le_refl _,fun h=>(by cases h),fun h=>(by simp at h)⟩
 ·split
  ·exact⟨Int.le_refl _,fun _=>⟨rfl,rfl⟩,fun h=>(by simp at h)⟩
  ·have:0<=cl.getD n.toNat 0:=by
    rw[List.getD_eq_getElem?_getD];cases h:cl[n.toNat]? with
    |none=>simp
    |some c=>exact hc c (List.mem_of_getElem? h)
   exact⟨(by show 0<=1+_;omega),fun h=>(by cases h),fun _=>rfl⟩
theorem Zby{cl:List Int}(hc:∀c∈cl,0<=c)(x:Nat)(s:Sd):Z6j (sgM cl x s):=⟨Z1h hc _ _ _,Z1h hc _ _ _,Z1h hc _ _ _,Z1h hc _ _ _⟩
def Yg(cl:List Int)(I:List (List Sd))(x:Nat):List Sg:=(I.getD x []).map (sgM cl x)
def Jf(cl:List Int)(I:List (List Sd))(x:Nat):List LB:=((Yg cl I x).map Xc).mergeSort (leC cmpL)
def keyM(cl:List Int)(I:List (List Sd))(x:Nat):LB:=itoa (cl.getD x 0)++10::UB (Jf cl I x)
theorem Z8n{cl:List Int}(hc:∀c∈cl,0<=c)(I:List (List Sd))(x:Nat):∀t∈Jf cl I x,IsSg t:=by
 intro t ht;have ht:t∈(Yg cl I x).map Xc:=(List.mergeSort_perm _ _).mem_iff.1 ht;obtain⟨s,hs,rfl⟩:=List.mem_map.1 ht;unfold Yg at hs;obtain⟨d,_,rfl⟩:=List.mem_map.1 hs;exact⟨_,Zby hc x d,rfl⟩
theorem Z2z{cl:List Int}(hc:∀c∈cl,0<=c)(I:List (List Sd))(x:Nat):∀s∈Yg cl I x,Z6j s:=by
 intro s hs;unfold Yg at hs;obtain⟨d,_,rfl⟩:=List.mem_map.1 hs;exact Zby hc x d
theorem Z7n{cl:List Int}(hc:∀c∈cl,0<=c)(I:List (List Sd))(x y:Nat):keyM cl I x=keyM cl I y<->cl.getD x 0=cl.getD y 0/\(Yg cl I x).Perm (Yg cl I y):=by
 constructor
 ·intro h;obtain⟨h1,h2⟩:=Z1f (d:=10) (by decide) (by decide) h;refine⟨h1,?_⟩;have h3:=Zdr (Z8n hc I x) (Z8n hc I y) h2;unfold Jf at h3;have h4:((Yg cl I x).map Xc).Perm ((Yg cl I y).map Xc):=((List.mergeSort_perm _ _).symm.trans (by rw[h3])).trans (List.mergeSort_perm _ _);exact Z8m (p:=Z6j) (fun a b ha hb=>Zbx ha hb) (Z2z hc I x) (Z2z hc I y) h4
 ·rintro⟨h1,h2⟩;unfold keyM Jf;rw[h1,Us triL (U0 triL _) (U0 triL _) (((List.mergeSort_perm _ _).trans (h2.map Xc)).trans (List.mergeSort_perm _ _).symm)]
section
variable {α:Type}[BEq α][LawfulBEq α]
def Zx(l:List α):List α:=l.foldl (fun acc k=>if k∈acc then acc else acc++ [k]) []
theorem Xh(l:List α){i:Nat}(h:i<l.length):Zx (l.take (i+1))=if l[i]∈Zx (l.take i)then Zx (l.take i)else Zx (l.take i)++ [l[i]]:=by
 unfold Zx;rw[List.take_succ_eq_append_getElem h,List.foldl_append];rfl
theorem Z3P(l:List α):∀(i j:Nat),i<=j->∃m,Zx (l.take j)=Zx (l.take i)++m
 |i,j,h=>by
  induction j with
  |zero=>have:i=0:=by omega
         subst this;exact⟨[],by simp⟩
  |succ j ih=>
   by_cases e:i=j+1
   ·subst e;exact⟨[],by simp⟩
   ·obtain⟨m,hm⟩:=ih (by omega);by_cases hl:j<l.length
    ·rw[Xh l hl];split
     ·exact⟨m,hm⟩
     ·exact⟨m++ [l[j]],by rw[hm,List.append_assoc]⟩
    ·rw[List.take_of_length_le (by omega)];rw[List.take_of_length_le (by omega)]at hm;exact⟨m,hm⟩
theorem Z3Q(l:List α)(i:Nat):(Zx (l.take i)).length<=i:=by
 induction i with
 |zero=>simp[Zx]
 |succ i ih=>
  by_cases hl:i<l.length
  ·rw[Xh l hl];split
   ·omega
   ·simp;omega
  ·rw[List.take_of_length_le (by omega)]at ih⊢;omega
theorem Z3R(l:List α){i:Nat}(h:i<l.length):l[i]∈Zx (l.take (i+1)):=by
 rw[Xh l h];split
 ·assumption
 ·simp
theorem Z0P(l:List α)(i:Nat):(Zx (l.take i)).Nodup:=by
 induction i with
 |zero=>simp[Zx]
 |succ i ih=>
  by_cases hl:i<l.length
  ·rw[Xh l hl];split
   ·exact ih
   ·rename_i hn;exact List.nodup_append.2 ⟨ih,by simp,fun a ha b hb=>by rw[List.mem_singleton.1 hb];exact fun e=>hn (e▸ha)⟩
  ·rw[List.take_of_length_le (by omega)]at ih⊢;exact ih
def YS(l:List α):List Int:=l.map fun k=>((Zx l).idxOf k:Int)
theorem VB(l:List α):(YS l).length=l.length:=by simp[YS]
theorem Zfj{a m:List α}{k:α}(h:k∈a):(a++m).idxOf k=a.idxOf k:=by rw[List.idxOf_append,if_pos h]
theorem Z4P(l:List α){i:Nat}(h:i<l.length):(YS l)[i]?=some (((Zx (l.take (i+1))).idxOf l[i]:Nat):Int):=by
 unfold YS;rw[List.getElem?_map,List.getElem?_eq_getElem h];obtain⟨m,hm⟩:=Z3P l (i+1) l.length (by omega);rw[List.take_length]at hm;simp only[Option.map_some];rw[hm,Zfj (Z3R l h)]
theorem Zds(l:List α){i:Nat}(h:i<l.length)(hm:l[i]∈Zx (l.take i)):(YS l)[i]?=some (((Zx (l.take i)).idxOf l[i]:Nat):Int):=by
 rw[Z4P l h,Xh l h,if_pos hm]
theorem Zdt(l:List α){i:Nat}(h:i<l.length)(hm:l[i]∉Zx (l.take i)):(YS l)[i]?=some (((Zx (l.take i)).length:Nat):Int):=by
 rw[Z4P l h,Xh l h,if_neg hm,List.idxOf_append,if_neg hm];simp
theorem Z3S(l:List α):∀c∈YS l,0<=c/\c< ((Zx l).length:Int):=by
 intro c hc;obtain⟨i,hi,rfl⟩:=List.mem_iff_getElem.1 hc;rw[VB]at hi;have h1:=Z4P l hi;rw[List.getElem?_eq_getElem (by rw[VB];exact hi)]at h1;have h2:=List.idxOf_lt_length_of_mem (Z3R l hi);obtain⟨m,hm⟩:=Z3P l (i+1) l.length (by omega);rw[List.take_length]at hm;rw[hm,List.length_append];injection h1 with h1;rw[h1];omega
end
end Go.Our
namespace Go.Sx
open Go Go.Sort Go.Shelf Go.Proofs
theorem FrW.grew{w0 w:World}{F:Nat->Prop}(h:FrW w0 w F)(q:Nat)(os:Array Obj):FrW w0 (grow (w.drewN q) os) F:=by
 refine⟨h.os,h.tape,h.output,Nat.le_trans h.drawn (Nat.le_add_right _ _),?_,fun k hk hF=>?_⟩
 ·simp only[grow,World.drewN,Array.size_append];exact Nat.le_trans h.size (Nat.le_add_right _ _)
 ·simp only[grow,World.drewN];rw[Array.getElem?_append_left (Nat.lt_of_lt_of_le hk h.size)];exact h.block k hk hF
theorem HeapOK.grew{M:Mx}{η:Env}{w:World}{O:Hps}{nx:Nat}(H:HeapOK M η w O nx)(q:Nat)(os:Array Obj):HeapOK M η (grow (w.drewN q) os) O nx:=by
 have hk:∀{i h},lkp i O=some h->∀k,feet η w (.loc i) h k->(grow (w.drewN q) os).heap[k]?=w.heap[k]?:=fun hi k f=>by
  simp only[grow,World.drewN];exact Array.getElem?_append_left ((H.own.1 _ _ hi).1.feet_lt f)
 have hb:∀{i h},lkp i O=some h->∀k,feet η (grow (w.drewN q) os) (.loc i) h k->feet η w (.loc i) h k:=fun hi k f=>H.stands List.prefix_rfl hi (hk hi) f;exact⟨H.pre,H.len,⟨fun i h hi=>⟨(H.own.1 i h hi).1.keep (hk hi),fun k f=>(H.own.1 i h hi).2 k (hb hi k f)⟩,fun i j h h' k hi hj hij f f'=>H.own.2 i j h h' k hi hj hij (hb hi k f) (hb hj k f')⟩,H.fr.grew q os,H.sok⟩
theorem ZbA{P:Program}{T:Tab}{ρ:Ren}(L:LaysM.n243 P ρ)(ef:∀args w,(callFunc (ρ.f 243) args).run P w= .ok (.enter (ρ.f 243) args) w){g:Nat}(hgn:P.globalNamed "internal/strconv.uint64pow10" =some g)
 (hgl:lkp g T.globs=some (.tbl (Lib.pow10Tab.map fun z=>Value.int .u64 z))) (n:Int) (h0: -9223372036854775808<=n) (h1:n<=9223372036854775807):
 Does P T (ρ.f 243) 0 [.int .i64 n] [] [] (Val (.str (Lib.itoa n))):=by
 refine⟨fun M vs hP hT' hF hS H hd=> .inl ⟨ρ.f 243,by rw[hP];exact ef _ _,?_⟩⟩;obtain⟨P',⟨T',N',S',ro'⟩,w0,F,η0⟩:=M;simp only at hP hT' hF hS H hd⊢;subst hP hT';simp only[DenL,Den]at hd;obtain⟨v,us,rfl,rfl,rfl⟩:=hd
 have htab:Lib.TabIs P' w0 "internal/strconv.uint64pow10" .u64 Lib.pow10Tab:=by
  have h:=H.shared (b:= .glob g) hgl;simp only[HpSat,Env.get]at h;obtain⟨e,he,hb,T,fz,hc⟩:=h;injection he with he;injection he with he;subst he;unfold Lib.TabIs World.var?;rw[hgn];simp only[Option.bind_some];rw[hc]
 refine(Any.internal_strconv_Itoa L n h0 h1 w0 htab).mono ?_;rintro e w' ⟨rfl,q,os,rfl⟩;exact⟨_,rfl,_,_,_,η0,⟨rfl,rfl,rfl⟩,List.prefix_rfl,H.grew q os,by simp only[Den]⟩
end Go.Sx
namespace Go.Our
open Go Go.Sx
inductive Out where
 |found (ys:List Nat) (left:Nat)
 |none (left:Nat)
 |over
def goY(ok:Nat->Bool)(fits:List Nat->Bool)(next:List Nat->Nat->Out)(ys:List Nat):List Nat->Nat->Out
 | [],left=> .none left
 |y::l,left=>
  if y∈ys\/ok y=false then goY ok fits next ys l left
  else match left with
   |0=> .over
   |left+1=>if fits (ys++ [y])=true then(match next (ys++ [y]) left with
     | .none left'=>goY ok fits next ys l left'
     |o=>o)else goY ok fits next ys l left
def Xi(n:Nat)(ok:Nat->Nat->Bool)(fits:List Nat->Bool):Nat->List Nat->Nat->Out
 |0,ys,left=> .found ys left
 |d+1,ys,left=>goY (ok ys.length) fits (Xi n ok fits d) ys (List.range n) left
theorem ZbT{ok:Nat->Bool}{fits:List Nat->Bool}{next:List Nat->Nat->Out}{ys:List Nat}{P:List Nat->Prop}{b:Nat}(hn:∀zs k,(∃y,zs=ys++ [y]/\y∉ys/\ok y=true/\y<b)->∀o,next zs k=o->(∀r m,o= .found r m->P r/\m<=k)/\∀m,o= .none m->m<=k):
 ∀(l:List Nat) (left:Nat),(∀y∈l,y<b)->(∀r m,goY ok fits next ys l left= .found r m->P r/\m<=left)/\∀m,goY ok fits next ys l left= .none m->m<=left
 | [],left,_=>⟨fun r m h=>by simp[goY]at h,fun m h=>by simp only[goY]at h;injection h with h;omega⟩
 |y::l,left,hb=>by
  have ih:=fun k=>ZbT (fits:=fits) hn l k fun z hz=>hb z (List.mem_cons_of_mem _ hz);unfold goY;split
  ·exact ih left
  ·rename_i hy;have hy1:y∉ys:=fun h=>hy (.inl h)
   have hy2:ok y=true:=by cases h:ok y with
    |true=>rfl
    |false=>exact(hy (.inr h)).elim
   cases left with
   |zero=>exact⟨fun r m h=>(by cases h),fun m h=>(by cases h)⟩
   |succ left=>
    dsimp only;split
    ·have hN:=hn (ys++ [y]) left ⟨y,rfl,hy1,hy2,hb y (List.mem_cons_self ..)⟩ _ rfl;split
     ·rename_i left' hl;have h1:=hN.2 left' hl;have h2:=ih left';exact⟨fun r m h=>⟨(h2.1 r m h).1,Nat.le_trans (h2.1 r m h).2 (by omega)⟩,fun m h=>Nat.le_trans (h2.2 m h) (by omega)⟩
     ·rename_i ho;exact⟨fun r m h=>⟨(hN.1 r m h).1,Nat.le_trans (hN.1 r m h).2 (by omega)⟩,fun m h=>(ho m h).elim⟩
    ·have h2:=ih left;exact⟨fun r m h=>⟨(h2.1 r m h).1,Nat.le_trans (h2.1 r m h).2 (by omega)⟩,fun m h=>Nat.le_trans (h2.2 m h) (by omega)⟩
structure Ps(n:Nat)(ok:Nat->Nat->Bool)(ys:List Nat):Prop where
 lt:∀y∈ys,y<n
 nd:ys.Nodup
 ok:∀i (h:i<ys.length),ok i ys[i]=true
theorem Ps.snoc{n:Nat}{ok:Nat->Nat->Bool}{ys:List Nat}{y:Nat}(h:Ps n ok ys)(hy:y∉ys)(hk:ok ys.length y=true)(hl:y<n):Ps n ok (ys++ [y]):=by
 refine⟨fun z hz=>?_,?_,fun i hi=>?_⟩
 ·rcases List.mem_append.1 hz with h1|h1
  ·exact h.lt z h1
  ·rw[List.mem_singleton.1 h1];exact hl
 ·rw[List.nodup_append];refine⟨h.nd,by simp,fun a ha b hb e=>?_⟩;rw[List.mem_singleton]at hb;subst hb e;exact hy ha
 ·rw[List.getElem_append];split
  ·rename_i h1;exact h.ok i h1
  ·rename_i h1;rw[List.length_append,List.length_singleton]at hi;have:i=ys.length:=by omega
   subst this;simpa using hk
theorem Z4X{n:Nat}{ok:Nat->Nat->Bool}{fits:List Nat->Bool}:∀(d:Nat) (ys:List Nat) (left:Nat),Ps n ok ys->(∀r m,Xi n ok fits d ys left= .found r m->(Ps n ok r/\r.length=ys.length+d)/\m<=left)/\∀m,Xi n ok fits d ys left= .none m->m<=left
 |0,ys,left,h=>⟨fun r m e=>by simp only[Xi]at e;injection e with e1 e2;subst e1 e2;exact⟨⟨h,rfl⟩,Nat.le_refl _⟩,fun m e=>by simp[Xi]at e⟩
 |d+1,ys,left,h=>by
  unfold Xi;refine ZbT (b:=n) (P:=fun r=>Ps n ok r/\r.length=ys.length+(d+1)) (fun zs k ⟨y,hz,h1,h2,h3⟩ o ho=>?_) _ _ fun y hy=>List.mem_range.1 hy;subst hz ho;have ih:=Z4X (fits:=fits) d (ys++ [y]) k (h.snoc h1 h2 h3);refine⟨fun r m e=>?_,ih.2⟩;obtain⟨⟨k1,k2⟩,k3⟩:=ih.1 r m e;exact⟨⟨k1,by rw[k2,List.length_append,List.length_singleton];omega⟩,k3⟩
theorem own_mem{f:LB->Int}{q:Qd}{n:Int}:n∈ownM f q<->∃t∈Zw q,t.k=2/\f t.t=n:=by
 have:∀(l:List Tm) (acc:List Int),n∈l.foldl (ownT f) acc<->n∈acc\/∃t∈l,t.k=2/\f t.t=n:=by
  intro l
  induction l with
  |nil=>intro acc;simp
  |cons t l ih=>
   intro acc;rw[List.foldl_cons,ih];unfold ownT;by_cases hk:t.k=2
   ·rw[if_pos hk];by_cases hm:f t.t∈acc
    ·rw[if_pos hm];constructor
     ·rintro(h|⟨u,hu,h1⟩)
      ·exact .inl h
      ·exact .inr ⟨u,List.mem_cons_of_mem _ hu,h1⟩
     ·rintro(h|⟨u,hu,h1,h2⟩)
      ·exact .inl h
      ·rcases List.mem_cons.1 hu with rfl|hu
       ·exact .inl (h2▸hm)
       ·exact .inr ⟨u,hu,h1,h2⟩
    ·rw[if_neg hm,List.mem_append,List.mem_singleton];constructor
     ·rintro((h|h)|⟨u,hu,h1⟩)
      ·exact .inl h
      ·exact .inr ⟨t,List.mem_cons_self ..,hk,h.symm⟩
      ·exact .inr ⟨u,List.mem_cons_of_mem _ hu,h1⟩
     ·rintro(h|⟨u,hu,h1,h2⟩)
      ·exact .inl (.inl h)
      ·rcases List.mem_cons.1 hu with rfl|hu
       ·exact .inl (.inr h2.symm)
       ·exact .inr ⟨u,hu,h1,h2⟩
   ·rw[if_neg hk];constructor
    ·rintro(h|⟨u,hu,h1⟩)
     ·exact .inl h
     ·exact .inr ⟨u,List.mem_cons_of_mem _ hu,h1⟩
    ·rintro(h|⟨u,hu,h1,h2⟩)
     ·exact .inl h
     ·rcases List.mem_cons.1 hu with rfl|hu
      ·exact(hk h1).elim
      ·exact .inr ⟨u,hu,h1,h2⟩
 unfold ownM;rw[this];simp
theorem ZbU(f:LB->Int)(q:Qd):(ownM f q).Nodup:=by
 have:∀(l:List Tm) (acc:List Int),acc.Nodup->(l.foldl (ownT f) acc).Nodup:=by
  intro l
  induction l with
  |nil=>intro acc h;exact h
  |cons t l ih=>
   intro acc h;rw[List.foldl_cons];refine ih _ ?_;unfold ownT;split
   ·split
    ·exact h
    ·rename_i hm;rw[List.nodup_append];refine⟨h,by simp,fun a ha b hb e=>?_⟩;rw[List.mem_singleton]at hb;subst hb e;exact hm ha
   ·exact h
 exact this _ [] List.nodup_nil
theorem Z8t{s:Sd}:∀{L:List Int} {I:List (List Sd)} {x:Nat} (h:x<I.length),L.Nodup->(∀n∈L,0<=n)->(L.foldl (putN s) I)[x]'(by rw[Z17];exact h)=I[x]++(if(x:Int)∈L then [s]else [])
 | [],I,x,h,_,_=>by simp
 |n::L,I,x,h,hd,hp=>by
  have h':x< (putN s I n).length:=by rw[Z89];exact h
  have hd':=List.nodup_cons.1 hd;simp only[List.foldl_cons];rw[Z8t h' hd'.2 fun m hm=>hp m (List.mem_cons_of_mem _ hm)];have hn:=hp n (List.mem_cons_self ..);have hg:(putN s I n)[x]=if n.toNat=x then I[x]++ [s]else I[x]:=List.getElem_modify ..
  rw[hg];by_cases hx:n=(x:Int)
  ·subst hx;rw[if_pos (by simp),if_neg hd'.1,if_pos (List.mem_cons_self ..),List.append_nil]
  ·rw[if_neg (by omega)];have:((x:Int)∈n::L)<->(x:Int)∈L:=by simp[Ne.symm hx]
   by_cases hm:(x:Int)∈L
   ·rw[if_pos hm,if_pos (this.2 hm)]
   ·rw[if_neg hm,if_neg (fun h=>hm (this.1 h))]
theorem U1{f:LB->Int}:∀{l:List Qd} {I:List (List Sd)} {x:Nat} (h:x<I.length) (h':x< (l.foldl (putS f) I).length),(∀q∈l,∀n∈ownM f q,0<=n)->(l.foldl (putS f) I)[x]=I[x]++(l.filter fun q=>decide ((x:Int)∈ownM f q)).map (sdM f)
 | [],I,x,h,_,_=>by simp
 |q::l,I,x,h,h',hp=>by
  have h1:x< (putS f I q).length:=by rw[Z8a];exact h
  simp only[List.foldl_cons];rw[U1 h1 (by simpa only[List.foldl_cons]using h') fun r hr=>hp r (List.mem_cons_of_mem _ hr)];have hg:(putS f I q)[x]=I[x]++(if(x:Int)∈ownM f q then [sdM f q]else []):=Z8t h (ZbU f q) (hp q (List.mem_cons_self ..));rw[hg,List.filter_cons];by_cases hm:(x:Int)∈ownM f q
  ·rw[if_pos hm,if_pos (decide_eq_true hm),List.map_cons,List.append_assoc];rfl
  ·rw[if_neg hm,if_neg (by simpa using hm),List.append_nil]
section
variable {α:Type}{es:Nat}{f:α->List SV}
def kD(es:Nat)(f:α->List SV)(ss:List (List α)):List (List DC):=ss.map fun l=>[.kid es (l.map f)]
theorem ZbV[p:PlF f]:∀ss:List (List α),ZF (kD es f ss)=true
 | []=>rfl
 |l::ss=>by simp only[kD,List.map_cons,ZF,YL,VD,Yb f p.h l,Bool.and_self,Bool.true_and];exact ZbV ss
instance [PlF f]{ss:List (List α)}:PlD (kD es f ss):=⟨ZbV ss⟩
theorem ZgF{ss:List (List α)}{i k:Nat}(h:i<ss.length)(hk:k=i):(kD es f ss)[k]?=some [.kid es (ss[i].map f)]:=by
 subst hk;unfold kD;rw[List.getElem?_map,List.getElem?_eq_getElem h];rfl
theorem ZbW{ss:List (List α)}{i k:Nat}{sv:SV}(h:i<ss.length)(hk:k=i):(setC (kD es f ss) k 0 (.v sv))[i]?=some [.v sv]:=by
 subst hk;rw[ZR,if_pos rfl,ZgF h rfl];rfl
theorem Zfp{ss:List (List α)}{i k n:Nat}{sv:SV}(h:i<ss.length)(hk:k=i)(hn:n=ss[i].length):setC (setC (kD es f ss) k 0 (.v sv)) i 0 (.kid es ((ss[i].map f).take n))=kD es f ss:=by
 subst hk hn;rw[setC_setC,List.take_of_length_le (by rw[List.length_map];exact Nat.le_refl _)];apply List.ext_getElem?;intro a;rw[ZR];by_cases ha:a=k
 ·subst ha;rw[if_pos rfl,ZgF h rfl];rfl
 ·rw[if_neg ha]
end
end Go.Our
namespace Go.Sx
open Go
def LentIn(w:World)(v:Value)(es:Nat)(rs:List (List SV))(en:Option Ent):Prop:=
 (∀x,en=some x->x.g<w.heap.size)/\∀(η:Env) (i:Nat),η[i]?=some en->Den η (.sl (.loc i) 0 es rs.length none) v/\HpSat η w false (.loc i) (.rows es rs)
theorem LentIn.now{w w':World}{F:Nat->Prop}{v:Value}{es:Nat}{rs:List (List SV)}{en:Option Ent}(h:LentIn w v es rs en)(hf:FrW w w' F)(hF:∀k, ¬F k):LentIn w' v es rs en:=
 ⟨fun x hx=>Nat.lt_of_lt_of_le (h.1 x hx) hf.size,fun η i hi=>⟨(h.2 η i hi).1,(h.2 η i hi).2.keep fun k f=>by
  obtain⟨e,he,f⟩:=f;rw[show η.get (.loc i)=some en from hi]at he;injection he with he;rcases f with rfl|f
  ·exact hf.block _ (h.1 e he) (hF _)
  ·exact f.elim⟩⟩
section
variable {M:Mx}{O:Hps}{nx:Nat}
variable {η:Env}{w:World}
end
structure OFFN(M:Mx)(f:FuncId)(cap:List SV)(O:Hps)(nx:Nat)(K:Hps->Nat->Prop):Prop where
 out:∀η w vs,HeapOK M η w O nx->DenL η cap vs->∃g,(callFunc f ⟨vs⟩).run M.P w= .ok (.enter g ⟨vs⟩) w/\
  CallsDIn Fence.wide 0 M.P g ⟨vs⟩ .returning w fun e u w'=> ∃v,e= .returned v/\u= .returning/\∃η' O' nx',η<+:η'/\HeapOK M η' w' O' nx'/\K O' nx'
structure OFFP(M:Mx)(f:FuncId)(cap:List SV)(p:SV)(O:Hps)(nx:Nat)(K:Hps->Nat->Prop):Prop where
 out:∀η w vs x,HeapOK M η w O nx->DenL η cap vs->Den η p x->∃g,(callFunc f ⟨vs⟩).run M.P w= .ok (.enter g ⟨vs⟩) w/\
  CallsDIn Fence.wide 0 M.P g ⟨vs⟩ (.panicking [{v:=x,recovered:=false}]) w fun e u w'=> ∃v,e= .returned v/\u= .panicking [{v:=x,recovered:=true}]/\∃η' O' nx',η<+:η'/\HeapOK M η' w' O' nx'/\K O' nx'
def ZdE(M:Mx)(res:List ResultVar)(Q:SV->Hps->Nat->Prop)(fr:Fr)(O:Hps)(nx:Nat):Prop:=
 match lkp DS fr with
 |none=>Uz M.C fr O res fun vs=>Z4b M O nx Q vs
 |some (.dfs [.fn (.func f) [] cap])=>OFFN M f cap O nx fun O nx=>Uz M.C fr O res fun vs=>Z4b M O nx Q vs
 |_=>STOP "end"
def endD(M:Mx)(res:List ResultVar)(Q:SV->Hps->Nat->Prop):Post
 | .normal,fr,O,nx=>ZdE M res Q fr O nx
 | .ret,fr,O,nx=>ZdE M res Q fr O nx
 | .exit _,_,_,_=>STOP "exit"
def panD(M:Mx)(res:List ResultVar)(Q:SV->Hps->Nat->Prop)(kp:Fr)(f:FuncId)(cap:List SV):SV->Hps->Nat->Prop:=
 fun v O nx=>OFFP M f cap v O nx fun O nx=>Uz M.C kp O res fun vs=>Z4b M O nx Q vs
def endC(K:Hps->Nat->Prop):Post
 | .normal,fr,O,nx=>(match lkp DS fr with|none=>K O nx|some _=>STOP "end")
 | .ret,fr,O,nx=>(match lkp DS fr with|none=>K O nx|some _=>STOP "end")
 | .exit _,_,_,_=>STOP "exit"
theorem WK{M:Mx}{η:Env}{w:World}{O:Hps}{nx:Nat}(hT:TabOK M.P M.C.T){g:FuncId}{fn:Func}{id:Nat}{o0 o1:Oper}{rest:Code}(hf:M.P.funcs[g]?=some fn)(hb:fn.body=some (.seq (.region id #[o0,o1] false) rest))(N:Nat)(hN:fn.ntmps=N)(hND:N<=DS){cap:List SV}(hlen:cap.length<=N)(hres:fn.results= #[])
 {t0 t1:Tmp} (ho0:o0.op= .call ⟨.builtin .recover, #[], #[]⟩) (hd0:o0.dst=some t0) (hg0:o0.guard=none) (ho1:o1.op= .assign (.tmp t0)) (hd1:o1.dst=some t1) (hg1:o1.guard=none) (hl0:Nat.blt t0 N=true) (hl1:Nat.blt t1 N=true)
 {K:Hps->Nat->Prop} {vs:List Value} (H:HeapOK M η w O nx) (hd:DenL η cap vs) {p:SV} {x:Value} (hp:Den η p x) {u u2:FrameMode}
 (hu:∀(c₀:Frame) cs,c₀.mode=u->recoverD (c₀::cs)=some (x,{c₀ with mode:=u2}::cs)\/(recoverD (c₀::cs)=none/\x= .nilIface/\u2=u))
 (h:run (M.at N none η) rest ((t1,p)::(t0,p)::XJ 0 cap) O nx (endC K)):
 CallsDIn Fence.wide 0 M.P g ⟨vs⟩ u w fun e u' w'=> ∃v,e= .returned v/\u'=u2/\∃η' O' nx',η<+:η'/\HeapOK M η' w' O' nx'/\K O' nx':=by
 have hl:=ZI hd;refine callsDIn_of_wpSIn hf hb trivial fun c₀ cs hc=>?_
 have hm:Models (M.at N none η) η (XJ 0 cap) O nx {tmps:=⟨vs⟩++Array.replicate (fn.ntmps-(Array.mk vs).size) undef,defers:=[]} w:=by
  refine⟨H.at,?_,hND,Wm (Nat.le_trans hlen hND),(fun l j h=>by cases h),?_⟩
  ·simp only[Array.size_append,Array.size_replicate,hN,List.size_toArray];show vs.length+(N-vs.length)=N
   omega
  ·intro t sv ht;obtain⟨v,_,h1,h2⟩:=Uf hd ht;have hlt:=(List.getElem?_eq_some_iff.1 h1).1;simp only[Nat.sub_zero]at h1 hlt;rw[Array.getD_eq_getD_getElem?,Array.getElem?_append_left (by simpa using hlt)];have:(Array.mk vs)[t]?=some v:=by simpa using h1
   rw[this];exact h2
 obtain⟨fr1,rfl,hm1⟩:=hm.put (d:=some t0) (u:=x) (v:=p) (Kp:=fun fr=>fr=(t0,p)::XJ 0 cap) hl0 List.prefix_rfl hm.heap hp rfl;obtain⟨fr2,rfl,hm2⟩:=hm1.put (d:=some t1) (u:=x) (v:=p) (Kp:=fun fr=>fr=(t1,p)::(t0,p)::XJ 0 cap) hl1 List.prefix_rfl hm.heap hp rfl;have hx1:=hm1.frame t0 p (by rw[Z8,if_pos rfl]);generalize{tmps:=⟨vs⟩++Array.replicate (fn.ntmps-(Array.mk vs).size) undef,defers:=[]:Act}=a at hm hm1 hm2 hx1⊢
 have hev:(a.put (some t0) x).eval (.tmp t0)=x:=by
  simp only[Act.eval];exact Z47 (by rw[hm.size];show t0<N;simpa[Nat.blt_eq]using hl0)
 refine wpSIn_seq (wpSIn_region ?_);have e0:(execOp a.eval o0).run M.P w= .ok .recover w:=by simp[execOp,ho0,resolve,invoke,builtin]
 have e1:(execOp (a.put (some t0) x).eval o1).run M.P w= .ok (.value x) w:=by simp[execOp,ho1,hev]
 have fin:∀cs',cs'={c₀ with mode:=u2}::cs->(rest.wpSIn Fence.wide 0 M.P (bodyPostS M.P fn c₀ cs fun e u' w'=> ∃v,e= .returned v/\u'=u2/\∃η' O' nx',η<+:η'/\HeapOK M η' w' O' nx'/\K O' nx')) ((a.put (some t0) x).put (some t1) x) cs' w:=by
  intro cs' hcs;refine wpSIn_of_wpIn rfl (Code.wpIn_mono ?_ (ZP (M:=M.at N none η) hT rest h η _ w hm2))
  have done:∀{η1:Env} {fr1:Fr} {O1:Hps} {nx1:Nat} {a:Act} {w1:World},Models (M.at N none η) η1 fr1 O1 nx1 a w1->(match lkp DS fr1 with|none=>K O1 nx1|some _=>STOP "end")->
   a.defers=[]/\∃u',cs'={c₀ with mode:=u'}::cs/\∃v,(results fn a.tmps).run M.P w1= .ok v w1/\∃v',Ending.returned v= .returned v'/\u'=u2/\∃η' O' nx',η<+:η'/\HeapOK M η' w1 O' nx'/\K O' nx':=by
   intro η1 fr1 O1 nx1 a w1 hm1 hk;split at hk
   case h_2=>exact hk.out.elim
   rename_i hds;have hdf:=hm1.defers;rw[hds]at hdf;exact⟨hdf,u2,hcs, .tuple #[],by rw[Z3p,hres];simp,_,rfl,rfl,η1,O1,nx1,hm1.heap.pre,hm1.heap.back H.pre H.sok,hk⟩
  intro e a w hq;cases e with
  |normal=>obtain⟨η1,fr1,O1,nx1,hm1,hq⟩:=hq;exact done hm1 hq
  |ret=>obtain⟨η1,fr1,O1,nx1,hm1,hq⟩:=hq;exact done hm1 hq
  |exit id=>obtain⟨η1,fr1,O1,nx1,hm1,hq⟩:=hq;exact hq.out.elim
  |goto l=>exact hq.elim
  |panic ch=>obtain⟨_,_,hn,_⟩:=hq;cases hn
  |outgrown=>exact hq.elim
 show wpOpsSIn Fence.wide 0 M.P #[o0,o1] _ [0,1] a (c₀::cs) w
 have w0:Region.wanted o0 (yielded #[o0,o1] a.tmps)=true:=XG hg0;have w1:Region.wanted o1 (yielded #[o0,o1] (a.put (some t0) x).tmps)=true:=XG hg1;rcases hu c₀ cs hc with hr|⟨hr,rfl,rfl⟩
 ·simp only[wpOpsSIn,List.getElem?_toArray,List.getElem?_cons_zero,List.getElem?_cons_succ,w0,if_true,e0,hr,hd0,w1,e1,hd1];exact⟨fun f _=>trivial,fun f _=>trivial,fin _ rfl⟩
 ·simp only[wpOpsSIn,List.getElem?_toArray,List.getElem?_cons_zero,List.getElem?_cons_succ,w0,if_true,e0,hr,hd0,w1,e1,hd1];exact⟨fun f _=>trivial,fun f _=>trivial,fin _ (by subst hc;rfl)⟩
theorem OFFN.inline{M:Mx}{O:Hps}{nx:Nat}(hT:TabOK M.P M.C.T){f g:FuncId}{fn:Func}{id:Nat}{o0 o1:Oper}{rest:Code}{cap:List SV}{K:Hps->Nat->Prop}(hcall:∀args w,(callFunc f args).run M.P w= .ok (.enter g args) w)(hf:M.P.funcs[g]?=some fn)(hb:fn.body=some (.seq (.region id #[o0,o1] false) rest))(N:Nat)(hN:fn.ntmps=N)(t0 t1:Tmp)
 (h:∀η0:Env,η0.length=nx->run (M.at N none η0) rest ((t1, .val .nilIface)::(t0, .val .nilIface)::XJ 0 cap) O nx (endC K)) (hlen:Nat.ble cap.length N=true:=by rfl) (hres:fn.results= #[]:=by rfl)
 (ho0:o0.op= .call ⟨.builtin .recover, #[], #[]⟩:=by rfl) (hd0:o0.dst=some t0:=by rfl) (hg0:o0.guard=none:=by rfl) (ho1:o1.op= .assign (.tmp t0):=by rfl) (hd1:o1.dst=some t1:=by rfl) (hg1:o1.guard=none:=by rfl) (hl0:Nat.blt t0 N=true:=by rfl) (hl1:Nat.blt t1 N=true:=by rfl) (hND:Nat.ble N DS=true:=by rfl):OFFN M f cap O nx K:=
 ⟨fun η w vs H hd=>⟨g,hcall _ _,WK hT hf hb N hN (Nat.le_of_ble_eq_true hND) (Nat.le_of_ble_eq_true hlen) hres ho0 hd0 hg0 ho1 hd1 hg1 hl0 hl1 H hd (p:= .val .nilIface) (x:= .nilIface) ⟨rfl,rfl⟩ (fun c₀ cs hc=> .inr ⟨by simp[recoverD,hc],rfl,rfl⟩) (h η H.len)⟩⟩
theorem OFFP.inline{M:Mx}{O:Hps}{nx:Nat}(hT:TabOK M.P M.C.T){f g:FuncId}{fn:Func}{id:Nat}{o0 o1:Oper}{rest:Code}{cap:List SV}{p:SV}{K:Hps->Nat->Prop}(hcall:∀args w,(callFunc f args).run M.P w= .ok (.enter g args) w)(hf:M.P.funcs[g]?=some fn)(hb:fn.body=some (.seq (.region id #[o0,o1] false) rest))(N:Nat)(hN:fn.ntmps=N)(t0 t1:Tmp)
 (h:∀η0:Env,η0.length=nx->run (M.at N none η0) rest ((t1,p)::(t0,p)::XJ 0 cap) O nx (endC K)) (hlen:Nat.ble cap.length N=true:=by rfl) (hres:fn.results= #[]:=by rfl)
 (ho0:o0.op= .call ⟨.builtin .recover, #[], #[]⟩:=by rfl) (hd0:o0.dst=some t0:=by rfl) (hg0:o0.guard=none:=by rfl) (ho1:o1.op= .assign (.tmp t0):=by rfl) (hd1:o1.dst=some t1:=by rfl) (hg1:o1.guard=none:=by rfl) (hl0:Nat.blt t0 N=true:=by rfl) (hl1:Nat.blt t1 N=true:=by rfl) (hND:Nat.ble N DS=true:=by rfl):OFFP M f cap p O nx K:=
 ⟨fun η w vs x H hd hp=>⟨g,hcall _ _,WK hT hf hb N hN (Nat.le_of_ble_eq_true hND) (Nat.le_of_ble_eq_true hlen) hres ho0 hd0 hg0 ho1 hd1 hg1 hl0 hl1 H hd hp (fun c₀ cs hc=> .inl (by simp[recoverD,hc])) (h η H.len)⟩⟩
theorem Zc0{P:Program}{fn:Func}{tmps:Array Value}{R:Ending->World->Prop}{f g:FuncId}{vs:List Value}{u:FrameMode}{w:World}(hu:u≠ .run)(hc:(callFunc f ⟨vs⟩).run P w= .ok (.enter g ⟨vs⟩) w)
 (h:CallsDIn Fence.wide 0 P g ⟨vs⟩ u w fun e u' w'=> ∃v,e= .returned v/\settle u'= .returning/\∃v,(results fn tmps).run P w'= .ok v w'/\R (.returned v) w'):
 LeavesInM Fence.wide 0 P fn tmps R [{target:= .fn (.func f) ⟨vs⟩,args:= #[]}] u w:=by
 refine⟨hu, .inr ⟨(fun h=>by cases h), .func f,⟨vs⟩,g,⟨vs⟩,rfl,?_,fun g _=>trivial,?_⟩⟩
 ·simpa[invoke]using hc
 ·refine⟨h.1,fun c cs hm hr=>?_⟩;obtain⟨e,u',w',fr,⟨v,rfl,hs,v',h1,h2⟩,h3,h4,h5,h6⟩:=h.2 c cs hm hr;refine⟨.returned v,u',w',fr,?_,h3,h4,h5,h6⟩;show LeavesInM _ _ _ _ _ _ [] (settle u') w'
  rw[hs];exact⟨v',h1,h2⟩
theorem Does.enterD{P:Program}{T:Tab}{f g:FuncId}{k:Nat}{args:List SV}{O S:Hps}{Q:SV->Hps->Nat->Prop}{fn:Func}{c:Code}(hT:TabOK P T)(hcall:∀args w,(callFunc f args).run P w= .ok (.enter g args) w)
 (hf:P.funcs[g]?=some fn) (hb:fn.body=some c) (N:Nat) (hN:fn.ntmps=N) (hlen:Nat.ble args.length N=true) (res:List ResultVar) (hres:fn.results=res.toArray) (kp:Fr) (f':FuncId) (cap:List SV) (hkp:lkp DS kp=some (.dfs [.fn (.func f') [] cap]))
 (h:∀w0 F η0,η0.length=k->run ⟨P,⟨T,N,shB S,none⟩,w0,F,η0,some (kp,panD ⟨P,⟨T,N,shB S,none⟩,w0,F,η0,none⟩ res Q kp f' cap)⟩ c (XJ 0 args) O k (endD ⟨P,⟨T,N,shB S,none⟩,w0,F,η0,none⟩ res Q)) (hND:Nat.ble N DS=true:=by rfl):Does P T f k args O S Q:=by
 refine⟨fun M vs hP hT' hF hS H hd=> .inl ⟨g,by rw[hP];exact hcall _ _,?_⟩⟩;obtain⟨P',⟨T',N',S',ro'⟩,w0,F,η0,px'⟩:=M;simp only at hP hT' hF hS H hd⊢;subst hP hT' hS;have hk:η0.length=k:=H.len;obtain⟨px,hpx⟩:∃px,px=some (kp,panD ⟨P',⟨T',N,shB S,none⟩,w0,F,η0,none⟩ res Q kp f' cap):=⟨_,rfl⟩;have H':HeapOK ⟨P',⟨T',N,shB S,none⟩,w0,F,η0,px⟩ η0 w0 O k:=⟨H.pre,H.len,H.own,H.fr,H.sok⟩;have hl:=ZI hd;refine callsIn_wide (n:=0)|>.1 (callsIn_of_wp_marks hf hb trivial ?_)
 have hm:Models ⟨P',⟨T',N,shB S,none⟩,w0,F,η0,px⟩ η0 (XJ 0 args) O k {tmps:=⟨vs⟩++Array.replicate (fn.ntmps-(Array.mk vs).size) undef,defers:=[]} w0:=by
  refine⟨H',?_,Nat.le_of_ble_eq_true hND,Wm (Nat.le_trans (Nat.le_of_ble_eq_true hlen) (Nat.le_of_ble_eq_true hND)),(fun l j h=>by cases h),?_⟩
  ·have:=Nat.le_of_ble_eq_true hlen;simp only[Array.size_append,Array.size_replicate,hN,List.size_toArray];show vs.length+(N-vs.length)=N
   omega
  ·intro t sv ht;obtain⟨v,_,h1,h2⟩:=Uf hd ht;have hlt:=(List.getElem?_eq_some_iff.1 h1).1;simp only[Nat.sub_zero]at h1 hlt;rw[Array.getD_eq_getD_getElem?,Array.getElem?_append_left (by simpa using hlt)];have:(Array.mk vs)[t]?=some v:=by simpa using h1
   rw[this];exact h2
 have hrun:=h w0 F η0 hk;rw[<-hpx]at hrun;refine Code.wpIn_mono ?_ (ZP hT c hrun η0 _ w0 hm);obtain⟨M0,hM0⟩:∃M0:Mx,M0=⟨P',⟨T',N,shB S,none⟩,w0,F,η0,none⟩:=⟨_,rfl⟩;rw[<-hM0]at hpx;have cv:∀{η1:Env} {w1:World} {O1:Hps} {nx1:Nat},HeapOK ⟨P',⟨T',N,shB S,none⟩,w0,F,η0,px⟩ η1 w1 O1 nx1->HeapOK M0 η1 w1 O1 nx1:=fun h=>by subst hM0;exact⟨h.pre,h.len,h.own,h.fr,h.sok⟩
 have hP0:M0.P=P':=by subst hM0;rfl
 have back:∀{η1:Env} {fr1:Fr} {O1:Hps} {nx1:Nat} {a:Act} {w1:World},HeapOK M0 η1 w1 O1 nx1->FrOK η1 a fr1->(Uz M0.C fr1 O1 res fun vs=>Z4b M0 O1 nx1 Q vs)->
  ∃v,(results fn a.tmps).run P' w1= .ok v w1/\∃v',Ending.returned v= .returned v'/\∃r O' nx' η',Q r O' nx'/\η0<+:η'/\HeapOK ⟨P',⟨T',N',shB S,ro'⟩,w0,F,η0,px'⟩ η' w1 O' nx'/\Den η' r v':=by
  intro η1 fr1 O1 nx1 a w1 H1 hf1 hr;obtain⟨v,r,h1,h2,h3⟩:=Z5t (K:=fun r O nx=>FIN M0 O nx r Q) (a:=a) (by subst hM0;exact hT) hres H1 hf1 (by simpa only[Z4c]using hr);obtain⟨r',O',nx',η',h5,h6,h7,h8⟩:=h3.out η1 w1 v H1 h2;rw[hP0]at h1;subst hM0;exact⟨v,h1,v,rfl,r',O',nx',η',h5,h6,⟨h7.pre,h7.len,h7.own,h7.fr,h7.sok⟩,h8⟩
 have fin:∀{η1:Env} {fr1:Fr} {O1:Hps} {nx1:Nat} {a:Act} {w1:World},Models ⟨P',⟨T',N,shB S,none⟩,w0,F,η0,px⟩ η1 fr1 O1 nx1 a w1->ZdE M0 res Q fr1 O1 nx1->
  LeavesInM Fence.wide 0 P' fn a.tmps (fun e w'=> ∃v,e= .returned v/\∃r O' nx' η',Q r O' nx'/\η0<+:η'/\HeapOK ⟨P',⟨T',N',shB S,ro'⟩,w0,F,η0,px'⟩ η' w' O' nx'/\Den η' r v) a.defers .returning w1:=by
  intro η1 fr1 O1 nx1 a w1 hm1 hr;have hdf:=hm1.defers;unfold ZdE at hr;split at hr
  ·rename_i hds;rw[hds]at hdf;have hdf:a.defers=[]:=hdf;rw[hdf];obtain⟨v,h1,h2⟩:=back (a:=a) (cv hm1.heap) hm1.frame hr;exact⟨v,h1,h2⟩
  ·rename_i f1 cap1 hds;rw[hds]at hdf;have hdf:DfL η1 [.fn (.func f1) [] cap1] a.defers:=hdf;simp only[DfL,DenL]at hdf;obtain⟨us,vs1,r1,rfl,h2,h3,rfl⟩:=hdf;rw[h3];obtain⟨g1,h4,h5⟩:=hr.out η1 w1 vs1 (cv hm1.heap) h2;rw[hP0]at h4 h5;refine Zc0 (by simp) h4 ⟨h5.1,fun c cs hmm hro=>?_⟩;obtain⟨e,u',w',fr,⟨v,he,hu,η',O',nx',k1,k2,k3⟩,k4⟩:=h5.2 c cs hmm hro;subst hu;obtain⟨v2,q1,q2⟩:=back (a:=a) k2 (hm1.frame.mono k1) k3;exact⟨e,_,w',fr,⟨v,he,rfl,v2,q1,q2⟩,k4⟩
  ·exact hr.out.elim
 intro e a w hq;cases e with
 |normal=>obtain⟨η1,fr1,O1,nx1,hm1,hq⟩:=hq;exact fin hm1 (by subst hM0;exact hq)
 |ret=>obtain⟨η1,fr1,O1,nx1,hm1,hq⟩:=hq;exact fin hm1 (by subst hM0;exact hq)
 |exit id=>obtain⟨η1,fr1,O1,nx1,hm1,hq⟩:=hq;exact hq.out.elim
 |goto l=>exact hq.elim
 |panic ch=>
  obtain⟨kp',X',h1,η1,O1,nx1,v,sv,rfl,hm1,hd1,hx⟩:=hq;rw[hpx]at h1;injection h1 with h1;injection h1 with h1 h2;subst h1 h2;have hdf:=hm1.defers;rw[hkp]at hdf;have hdf:DfL η1 [.fn (.func f') [] cap] a.defers:=hdf;simp only[DfL,DenL]at hdf;obtain⟨us,vs1,r1,rfl,h2,h3,rfl⟩:=hdf;show LeavesInM _ _ _ _ _ _ a.defers _ w
  rw[h3];obtain⟨g1,h4,h5⟩:=OFFP.out hx η1 w vs1 v (cv hm1.heap) h2 hd1;rw[hP0]at h4 h5;refine Zc0 (by simp) h4 ⟨h5.1,fun c cs hmm hro=>?_⟩;obtain⟨e,u',w',fr,⟨x,he,hu,η',O',nx',k1,k2,k3⟩,k4⟩:=h5.2 c cs hmm hro;subst hu;obtain⟨v2,q1,q2⟩:=back (a:=a) k2 (hm1.frame.mono k1) k3;exact⟨e,_,w',fr,⟨x,he,rfl,v2,q1,q2⟩,k4⟩
 |outgrown=>exact hq.elim
end Go.Sx
