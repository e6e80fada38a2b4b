import Derived.Lib.Bytealg
import Derived.Lib.Strings
import Derived.Lib.ItoaNum
import Derived.RangeFuncNested
import Derived.Shelf.SlSortCmp.NoneTotal
import Derived.Shelf.Sort.Plain
import Derived.Shelf.Slices.In.SortNone
import Derived.Shelf.Strconv.Itoa3
import Derived.RecoverIn
import Derived.Test.YtlcbipfmodcedaaGreatDoorTxt1
import Derived.Test.YtlcbipfmodcedaaGreatDoorTxt4
set_option linter.unusedVariables false
set_option linter.unusedSimpArgs false
namespace Go.Sx
open Go
def oJ(v:SV):Prop:=∀Y u u',Den Y v u->Den Y v u'->u=u'
def aJ(vs:List SV):Prop:=∀Y us us',w6 Y vs us->w6 Y vs us'->us=us'
mutual
def fU:SV->Bool
 | .bool _| .int _ _| .str _| .ptr _ _ _ _| .val _| .mp _| .yf _=>true
 | .eE _=>false
 | .sl _ r _ _ _=>Nat.beq r 0
 | .agg cs=>nP cs
 | .wM vs=>nP vs
 | .dX _ v=>fU v
 | .fn _ a b=>nP a&&nP b
 | .arr _ _=>false
 | .any=>false
 | .nb _=>false
def nP:List SV->Bool
 | []=>true
 |c::cs=>fU c&&nP cs
end
mutual
theorem oJ.of:∀{v:SV},fU v=true->oJ v
 | .bool _,_=>fun Y u u' h h'=>by simp only[Den]at h h';rw[h,h']
 | .int _ _,_=>fun Y u u' h h'=>by simp only[Den]at h h';rw[h,h']
 | .str _,_=>fun Y u u' h h'=>by simp only[Den]at h h';rw[h,h']
 | .val _,_=>fun Y u u' h h'=>by simp only[Den]at h h';rw[h.1,h'.1]
 | .mp b,_=>fun Y u u' h h'=>by
   simp only[Den]at h h';obtain⟨e,h1,rfl⟩:=h;obtain⟨e',h2,rfl⟩:=h';rw[h1]at h2;injection h2 with h2;injection h2 with h2;rw[h2]
 | .ptr b r es c,_=>fun Y u u' h h'=>by
   simp only[Den]at h h';obtain⟨e,h1,rfl⟩:=h;obtain⟨e',h2,rfl⟩:=h';rw[h1]at h2;injection h2 with h2;injection h2 with h2;rw[h2]
 | .sl b r es len lim,hd=>fun Y u u' h h'=>by
   simp only[fU]at hd;have hd:=Zs hd;simp only[Den]at h h';rcases h with⟨h1,rfl,_⟩|⟨e,o,h1,rfl,_,_,h2⟩
   .rcases h' with⟨gU,rfl,_⟩|⟨e',o',gU,rfl,_,_,Kb⟩
    rfl
    rw[h1]at gU;cases gU
   .rcases h' with⟨gU,rfl,_⟩|⟨e',o',gU,rfl,_,_,Kb⟩
    rw[h1]at gU;cases gU
    .rw[h1]at gU;injection gU with gU;injection gU with gU;subst gU
     rw[h2 (.inr hd),Kb (.inr hd)]
 | .agg cs,hd=>fun Y u u' h h'=>by
   simp only[fU]at hd;simp only[Den]at h h';obtain⟨us,rfl,h1,_⟩:=h;obtain⟨us',rfl,h2,_⟩:=h';rw[aJ.of hd Y us us' h1 h2]
 | .wM cs,hd=>fun Y u u' h h'=>by
   simp only[fU]at hd;simp only[Den]at h h';obtain⟨us,rfl,h1⟩:=h;obtain⟨us',rfl,h2⟩:=h';rw[aJ.of hd Y us us' h1 h2]
 | .dX t v,hd=>fun Y u u' h h'=>by
   simp only[fU]at hd;simp only[Den]at h h';obtain⟨us,rfl,h1⟩:=h;obtain⟨us',rfl,h2⟩:=h';rw[oJ.of hd Y us us' h1 h2]
 | .fn f a b,hd=>fun Y u u' h h'=>by
   simp only[fU,zk]at hd;simp only[Den]at h h';obtain⟨us,vs,rfl,h1,h3⟩:=h;obtain⟨us',vs',rfl,h2,h4⟩:=h';rw[aJ.of hd.1 Y us us' h1 h2,aJ.of hd.2 Y vs vs' h3 h4]
 | .arr _ _,hd=>by simp[fU]at hd
 | .any,hd=>by simp[fU]at hd
 | .nb _,hd=>by simp[fU]at hd
 | .eE _,hd=>by simp[fU]at hd
 | .yf b,_=>fun Y u u' h h'=>by
   simp only[Den]at h h';obtain⟨e,h1,rfl⟩:=h;obtain⟨e',h2,rfl⟩:=h';rw[h1]at h2;injection h2 with h2;injection h2 with h2;rw[h2]
theorem aJ.of:∀{vs:List SV},nP vs=true->aJ vs
 | [],_=>fun Y us us' h h'=>by simp only[w6]at h h';rw[h,h']
 |c::cs,hd=>fun Y us us' h h'=>by
  simp only[nP,zk]at hd;simp only[w6]at h h';obtain⟨u,r,rfl,h1,h2⟩:=h;obtain⟨u',r',rfl,gU,Kb⟩:=h';rw[oJ.of hd.1 Y u u' h1 gU,aJ.of hd.2 Y r r' h2 Kb]
end
def WG:w9->List (qP×Hp)
 | []=>[]
 |(i,h)::r=>(.loc i,h)::WG r
def Ke(C:Cx)(O:w9):Cx:=⟨C.T,C.N,WG O++C.S,C.ro⟩
def Gv(C:Cx):Cx:=⟨{C.T with jc:=[],bI:=rfl},C.N,[],C.ro⟩
def aK(M:Mx)(O:w9)(Y:Env)(w:World):Mx:=⟨M.P,Ke M.C O,w,fun _=>False,Y,none⟩
def Gw(M:Mx)(Y:Env)(w:World):Mx:=⟨M.P,Gv M.C,w,fun _=>False,Y,none⟩
def HW:SV->Prop->Prop
 | .bool _,K| .int _ _,K| .str _,K| .ptr _ _ _ _,K| .val _,K=>K
 | .agg cs,K=>match nP cs with|true=>K|false=>wm (oJ (.agg cs)) K
 | .wM cs,K=>match nP cs with|true=>K|false=>wm (oJ (.wM cs)) K
 |v,K=>wm (oJ v) K
def Kf(N:Nat)(C:Cx)(o:Oper)(fr:Fr)(nx:Nat)(K:SV->Prop):Prop:=
 match JN N o.dst with
 |false=>qc "slot"
 |true=>match o.op with
  | .move x=>match V2 fr x with|some v=>K v|none=>qc "operand"
  | .assign x=>match V2 fr x with|some v=>K v|none=>qc "operand"
  |op=>match Nk op with
   |true=>qc "writes"
   |false=>(qH C (V2 fr) [] nx op).gv fun v=>HW v (K v)
structure qJ(M:Mx)(o:Oper)(fr:Fr)(O:w9)(nx:Nat)(K:SV->w9->Nat->Prop):Prop where
 tw::
 hout:∀Y w,uY M Y w O nx->mc (aK M O Y w) o (V2 fr) [] nx fun v O2 nx=>K v (O2++O) nx
theorem qJ.mk{M:Mx}{o:Oper}{fr:Fr}{O:w9}{nx:Nat}{K:SV->w9->Nat->Prop}(h:∀Y w,mc (aK M O Y w) o (V2 fr) [] nx fun v O2 nx=>K v (O2++O) nx):qJ M o fr O nx K:=⟨fun Y w _=>h Y w⟩
def Gx(M:Mx)(m:Nat)(o:Oper)(fr:Fr)(O:w9)(nx:Nat)(K:SV->w9->Nat->Prop):Prop:=
 match m with
 |0=>mc M o (V2 fr) O nx K
 |1=>Kf M.C.N (Gv M.C) o fr nx fun v=>K v O nx
 |2=>Kf M.C.N (Ke M.C O) o fr nx fun v=>K v O nx
 |_=>qJ M o fr O nx K
inductive wP where
 |nil
 |take (i m:Nat) (t:wP)
 |fork (i mi j mj:Nat) (a b:wP)
 |pH (i mi j mj k mk:Nat) (a b c:wP)
 |join (t:wP)
def Zr:List (Nat×Nat)->wP
 | []=> .nil
 |(i,m)::r=> .take i m (Zr r)
def wP.depth:wP->Nat
 | .nil=>0
 | .take _ _ t=>t.depth+1
 | .fork _ _ _ _ a _=>a.depth+1
 | .pH _ _ _ _ _ _ a _ _=>a.depth+1
 | .join t=>t.depth
structure j9(A B:Prop):Prop where
 a:A
 b:B
structure b5(A:Fr->Prop)(fr:Fr):Prop where
 out:∃fr',(∀t,wu t fr'=wu t fr)/\A fr'
theorem b5.go{A:Fr->Prop}{fr:Fr}(h:A fr):b5 A fr:=⟨fr,fun _=>rfl,h⟩
theorem b5.ij{A:Fr->Prop}{fr:Fr}{a b c s:Nat}{x y z g:SV}(h:A ((b,y)::(c,z)::(a,x)::(s,g)::fr))(hd:(a≠s/\b≠s/\c≠s)/\a≠b/\a≠c/\b≠c):b5 A ((b,y)::(s,g)::(c,z)::(s,g)::(a,x)::(s,g)::fr):=by
 refine⟨_,fun t=>?_,h⟩;obtain⟨⟨h1,h2,h3⟩,h4,h5,h6⟩:=hd;simp only[Za];repeat' split
 all_goals first|rfl|(exfalso;omega)
theorem b5.ji{A:Fr->Prop}{fr:Fr}{a b c s:Nat}{x y z g:SV}(h:A ((b,y)::(c,z)::(a,x)::(s,g)::fr))(hd:(a≠s/\b≠s/\c≠s)/\a≠b/\a≠c/\b≠c):b5 A ((c,z)::(s,g)::(a,x)::(s,g)::(b,y)::(s,g)::fr):=by
 refine⟨_,fun t=>?_,h⟩;obtain⟨⟨h1,h2,h3⟩,h4,h5,h6⟩:=hd;simp only[Za];repeat' split
 all_goals first|rfl|(exfalso;omega)
def qR(M:Mx)(ops:List Oper)(i m:Nat)(fr:Fr)(O:w9)(nx:Nat)(K:Fr->w9->Nat->Prop):Prop:=
 match nth ops i with
 |none=>qc "order"
 |some o=>match o.guard with
  |none=>Gx M m o fr O nx fun v O nx=>qQ o.dst v fr fun fr=>K fr O nx
  |some (j,want)=>
   match W2 ops j with
   |none=>qc "guard"
   |some s=>match wu s fr with
    |some (.bool b)=>IF b
     (fun J=>match want with
      |true=>Gx M m o ((s, .bool true)::fr) O nx fun v O nx=>qQ o.dst v ((s, .bool true)::fr) fun fr=>J fr O nx
      |false=>match JN M.C.N o.dst with|true=>qQ o.dst YS ((s, .bool true)::fr) fun fr=>J fr O nx|false=>qc "slot")
     (fun J=>match want with
      |false=>Gx M m o ((s, .bool false)::fr) O nx fun v O nx=>qQ o.dst v ((s, .bool false)::fr) fun fr=>J fr O nx
      |true=>match JN M.C.N o.dst with|true=>qQ o.dst YS ((s, .bool false)::fr) fun fr=>J fr O nx|false=>qc "slot")
     K
    |some (.wM [])=>match JN M.C.N o.dst with|true=>qQ o.dst YS fr fun fr=>K fr O nx|false=>qc "slot"
    |_=>qc "guard"
def Zmh(M:Mx)(ops:List Oper)(i m:Nat)(_:wP)(rest:RunT):RunT:=fun fr O nx K=>qR M ops i m fr O nx fun fr O nx=>rest fr O nx K
def Zmi(M:Mx)(ops:List Oper)(i mi j mj:Nat)(_ _:wP)(a b:RunT):RunT:=fun fr O nx K=>j9 (qR M ops i mi fr O nx fun fr O nx=>a fr O nx K) (qR M ops j mj fr O nx fun fr O nx=>b fr O nx K)
def Zla(M:Mx)(ops:List Oper)(i mi j mj k mk:Nat)(_ _ _:wP)(a b c:RunT):RunT:=fun fr O nx K=>j9 (qR M ops i mi fr O nx fun fr O nx=>a fr O nx K) (j9 (qR M ops j mj fr O nx fun fr O nx=>b fr O nx K) (qR M ops k mk fr O nx fun fr O nx=>c fr O nx K))
def Zmj(_:wP)(t:RunT):RunT:=fun fr O nx K=>b5 (fun fr=>t fr O nx K) fr
noncomputable def qU (M:Mx)(ops:List Oper)(p:wP):RunT:=wP.rec (motive:=fun _=>RunT) N7 (Zmh M ops) (Zmi M ops) (Zla M ops) Zmj p
theorem j9.skip{M:Mx}{ops:List Oper}{i mi j mj k mk:Nat}{p:wP}{fr:Fr}{O:w9}{nx:Nat}{K:Fr->w9->Nat->Prop}(a b c s:Nat)
 (ha:qU M ops p ((b,YS)::(c,YS)::(a,YS)::(s, .bool false)::fr) O nx K->qR M ops i mi fr O nx fun fr O nx=>qU M ops (.take k mk (.take j mj (.join p))) fr O nx K)
 (hb:qU M ops p ((b,YS)::(c,YS)::(a,YS)::(s, .bool false)::fr) O nx K->qR M ops j mj fr O nx fun fr O nx=>qU M ops (.take i mi (.take k mk (.join p))) fr O nx K)
 (r:qU M ops p ((b,YS)::(c,YS)::(a,YS)::(s, .bool false)::fr) O nx K):
 j9 (qR M ops i mi fr O nx fun fr O nx=>qU M ops (.take k mk (.take j mj (.join p))) fr O nx K) (qR M ops j mj fr O nx fun fr O nx=>qU M ops (.take i mi (.take k mk (.join p))) fr O nx K):=⟨ha r,hb r⟩
theorem qR.pass{M:Mx}{ops:List Oper}{i m:Nat}{fr:Fr}{O:w9}{nx:Nat}{K:Fr->w9->Nat->Prop}{o:Oper}{g s a:Nat}{e:Bool}
 (h1:nth ops i=some o) (h2:o.guard=some (g,true)) (h3:W2 ops g=some s) (h4:wu s fr=some (.bool e)) (he:e=false) (h5:o.dst=some a) (h6:Nat.blt a M.C.N=true)
 (h:K ((a,YS)::(s, .bool false)::fr) O nx):qR M ops i m fr O nx K:=by
 subst he;unfold qR;simp only[h1,h2,h3,h4,h5,JN,h6,qQ];exact IF.ff h
theorem j9.pass{M:Mx}{ops:List Oper}{i mi j mj k mk:Nat}{p:wP}{fr:Fr}{O:w9}{nx:Nat}{K:Fr->w9->Nat->Prop}(a b c s:Nat){oi oj ok:Oper}{gi gj gk:Nat}{e:Bool}
 (hi:nth ops i=some oi) (hj:nth ops j=some oj) (hk:nth ops k=some ok)
 (ei:oi.guard=some (gi,true)) (ej:oj.guard=some (gj,true)) (ek:ok.guard=some (gk,true))
 (si:W2 ops gi=some s) (sj:W2 ops gj=some s) (sk:W2 ops gk=some s)
 (di:oi.dst=some a) (dj:oj.dst=some b) (dk:ok.dst=some c)
 (ni:Nat.blt a M.C.N=true) (nj:Nat.blt b M.C.N=true) (nk:Nat.blt c M.C.N=true)
 (hf:wu s fr=some (.bool e)) (he:e=false)
 (hd:(a≠s/\b≠s/\c≠s)/\a≠b/\a≠c/\b≠c)
 (r:qU M ops p ((b,YS)::(c,YS)::(a,YS)::(s, .bool false)::fr) O nx K):
 j9 (qR M ops i mi fr O nx fun fr O nx=>qU M ops (.take k mk (.take j mj (.join p))) fr O nx K) (qR M ops j mj fr O nx fun fr O nx=>qU M ops (.take i mi (.take k mk (.join p))) fr O nx K):=by
 have l1:∀{v:SV} {t:Nat},t≠s->wu s ((t,v)::(s, .bool false)::fr)=some (.bool false):=fun h=>by
  rw[Za,z7 (fun h'=>h h'.symm),Za,zh rfl]
 obtain⟨⟨a1,a2,a3⟩,hd2⟩:=id hd
 have l2:∀{v w:SV} {t u:Nat},t≠s->u≠s->wu s ((t,v)::(s, .bool false)::(u,w)::(s, .bool false)::fr)=some (.bool false):=fun h _=>by
  rw[Za,z7 (fun h'=>h h'.symm),Za,zh rfl]
 constructor
 .refine qR.pass hi ei si hf he di ni ?_;show qR M ops k mk _ O nx fun fr O nx=>qU M ops (.take j mj (.join p)) fr O nx K
  refine qR.pass hk ek sk (l1 a1) rfl dk nk ?_;show qR M ops j mj _ O nx fun fr O nx=>qU M ops (.join p) fr O nx K
  refine qR.pass hj ej sj (l2 a3 a1) rfl dj nj ?_;exact b5.ij r hd
 .refine qR.pass hj ej sj hf he dj nj ?_;show qR M ops i mi _ O nx fun fr O nx=>qU M ops (.take k mk (.join p)) fr O nx K
  refine qR.pass hi ei si (l1 a2) rfl di ni ?_;show qR M ops k mk _ O nx fun fr O nx=>qU M ops (.join p) fr O nx K
  refine qR.pass hk ek sk (l2 a1 a2) rfl dk nk ?_;exact b5.ji r hd
def Ue(acc:List Nat)(o:Oper):Nat:=o.after.foldl (fun s e=>if Region.binds .any e then s|||2^e.on|||acc.getD e.on 0 else s) 0
def nQ:List Oper->List Nat->List Nat
 | [],acc=>acc
 |o::r,acc=>nQ r (acc++ [Ue acc o])
def iY(i:Nat):Nat->List Nat->List Nat
 |0,l=>i::l
 |_,l=>l
def tA(m:Nat):Bool:=m==0||m==3
def ZG:wP->List Nat
 | .nil=>[]
 | .take i 0 t=>i::ZG t
 | .take _ _ t=>ZG t
 | .fork i mi j mj a b=>iY i mi (iY j mj (ZG a++ZG b))
 | .pH i mi j mj k mk a b c=>iY i mi (iY j mj (iY k mk (ZG a++(ZG b++ZG c))))
 | .join t=>ZG t
def Jk(ops:Array Oper)(ms:List Nat):wP->Array Bool->Bool
 | .nil,l=>(Region.ready .any ops l).isEmpty
 | .take i m rest,l=>
   (match m with
    |0=>Region.ready .any ops l==[i]
    |1=>(Region.ready .any ops l).contains i&&Region.free .any ops l i&& (ZG rest).all (fun k=>k !=i)
    |2=>(Region.ready .any ops l).contains i&&Region.free .any ops l i&& (ZG rest).all (fun k=>k !=i&& (ms.getD k 0).testBit i)
    |_=>Region.ready .any ops l==[i])&&
   Jk ops ms rest (l.setIfInBounds i true)
 | .fork i mi j mj a b,l=>Region.ready .any ops l==[i,j]&&tA mi&&tA mj&&a.depth==b.depth&&Jk ops ms a (l.setIfInBounds i true)&&Jk ops ms b (l.setIfInBounds j true)
 | .pH i mi j mj k mk a b c,l=>Region.ready .any ops l==[i,j,k]&&tA mi&&tA mj&&tA mk&&a.depth==b.depth&&a.depth==c.depth&&Jk ops ms a (l.setIfInBounds i true)&&Jk ops ms b (l.setIfInBounds j true)&&Jk ops ms c (l.setIfInBounds k true)
 | .join t,l=>Jk ops ms t l
def CT(ops:Array Oper)(steps:wP):Bool:=
 Region.noSelect ops&&steps.depth==ops.size&&Jk ops (nQ ops.toList []) steps (Array.replicate ops.size false)
end Go.Sx
namespace Go.Sx
open Go
theorem MQ:∀(os:List Oper) (acc:List Nat),(nQ os acc).take acc.length=acc/\∀j o,os[j]?=some o->(nQ os acc)[acc.length+j]?=some (Ue ((nQ os acc).take (acc.length+j)) o)
 | [],acc=>⟨by simp[nQ],fun j o h=>by simp at h⟩
 |o::os,acc=>by
  simp only[nQ];obtain⟨h1,h2⟩:=MQ os (acc++ [Ue acc o]);simp only[zg,List.length_singleton]at h1 h2
  have h0:(nQ os (acc++ [Ue acc o])).take acc.length=acc:=by
   have:=ze (List.take acc.length) h1;rw[v7]at this;simpa using this
  refine⟨h0,fun j o' hj=>?_⟩;cases j with
  |zero=>
   simp at hj;subst hj;rw[Nat.add_zero,h0];have:=ze (fun l:List Nat=>l[acc.length]?) h1;simpa[zQ]using this
  |succ j=>
   have:=h2 j o' (by simpa using hj);rw[show acc.length+(j+1)=acc.length+1+j by omega];exact this
theorem Z5q{acc:List Nat}{o:Oper}{i:Nat}(h:(Ue acc o).testBit i=true):∃e∈o.after,Region.binds .any e=true/\(e.on=i\/(acc.getD e.on 0).testBit i=true):=by
 unfold Ue at h;rw[<-uz]at h
 have key:∀(es:List Edge) (s:Nat),(es.foldl (fun s e=>if Region.binds .any e then s|||2^e.on|||acc.getD e.on 0 else s) s).testBit i=true->
  s.testBit i=true\/∃e∈es,Region.binds .any e=true/\(e.on=i\/(acc.getD e.on 0).testBit i=true):=by
  intro es
  induction es with
  |nil=>intro s h;exact .inl h
  |cons e es ih=>
   intro s h;simp only[List.foldl_cons]at h;rcases ih _ h with h|⟨e',he',h⟩
   .split at h
    .rename_i hb;simp only[Nat.testBit_or,yI]at h;rcases h with(h|h)|h
     exact .inl h
     .refine .inr ⟨e,y5 ..,hb, .inl ?_⟩;rw[Nat.testBit_two_pow]at h;simpa using h
     exact .inr ⟨e,y5 ..,hb, .inr h⟩
    exact .inl h
   exact .inr ⟨e',zV _ he',h⟩
 rcases key _ _ h with h|⟨e,he,h⟩
 simp at h;exact⟨e,by simpa using he,h⟩
theorem Z8m{ops:Array Oper}{l:Array Bool}(hc:j8 .any ops l){i:Nat}:∀(k:Nat),((nQ ops.toList []).getD k 0).testBit i=true->l.getD k false=true->l.getD i false=true:=by
 intro k
 induction k using Nat.strongRecOn with
 |_ k ih=>
  intro h hk;cases hg:(nQ ops.toList [])[k]? with
  |none=>rw[zl,hg]at h;simp at h
  |some m=>
   have hlt:k<ops.size:=by
    rcases y9 k ops.size with h'|h'
    exact h'
    .rw[<-hc.1]at h';simp[xP h']at hk
   have ho:ops[k]?=some ops[k]:=yP hlt;have hm:=(MQ ops.toList []).2 k ops[k] (by simp);simp only[List.length_nil,zy]at hm;rw[zl,hm,Option.getD_some]at h;obtain⟨e,he,hb,h⟩:=Z5q h;have od:=hc.2 k _ ho hk e he hb;rcases h with rfl|h
   exact od
   .rw[zl,zQ]at h;split at h
    .rename_i hlt';exact ih e.on hlt' (by rw[zl];exact h) od
    simp at h
def agree(w w':World):Prop:=∀k,k<w.heap.size->w'.heap[k]?=w.heap[k]?
theorem agree.refl(w:World):agree w w:=fun _ _=>rfl
theorem agree.trans{a b c:World}(h:agree a b)(k:agree b c):agree a c:=fun n hn=>by
 have h1:=h n hn
 have hlt:n<b.heap.size:=by
  rw[yP hn]at h1;exact(zz.1 h1).1
 rw[k n hlt,h1]
section
variable {M:Mx}{J:Env}{w:World}{O:w9}{nx:Nat}
theorem CU{C:Cx}:∀{O:w9} {j:Nat},jd (.loc j) (WG O++C.S)=Yk C O (.loc j)
 | [],j=>by simp[WG,Yk,wu]
 |(i,h)::r,j=>by
  have ih:=CU (C:=C) (O:=r) (j:=j);simp only[WG,List.cons_append,jd,ow,Yk,wu];cases e:Nat.beq j i
  simp only[e];rw[ih];rfl;simp only[e]
theorem CV{C:Cx}{O:w9}{b:qP}:cT (Ke C O) b=Yk C O b:=by
 cases b with
 |qf g=>rfl
 |loc j=>exact CU
theorem uY.read(H:uY M J w O nx){w':World}(hag:agree w w'):uY (aK M O J w') J w' [] nx:=by
 refine⟨zw,H.len,⟨fun i h hi=>by simp[wu]at hi,fun i j h h' n hi=>by simp[wu]at hi⟩,jS.refl _ _,fun b h hb=>?_⟩;have hb':Yk M.C O b=some h:=by rw[<-CV];exact hb
 have wA:=H.look hb';have iZ:∀k,wq J w b h k->w'.heap[k]?=w.heap[k]?:=fun k f=>hag _ (wA.wY f);have hs':=wA.keep iZ;exact⟨hs',fun k f=>⟨hs'.wY f,fun h=>h⟩⟩
theorem uY.blind(hl:J.length=nx)(w:World):uY (Gw M J w) J w [] nx:=
 ⟨zw,hl,⟨fun i h hi=>by simp[wu]at hi,fun i j h h' n hi=>by simp[wu]at hi⟩,jS.refl _ _,fun b h hb=>by cases b<;>simp[Gw,Gv,cT,jd,wu]at hb⟩
theorem uY.join(H:uY M J w O nx){η':Env}{w':World}{O2:w9}{ng:Nat}(H2:uY (aK M O J w) η' w' O2 ng):uY M η' w' (O2++O) ng/\agree w w':=by
 have hag:agree w w':=fun k hk=>H2.fr.block k hk (fun h=>h);have hp:J<+:η':=H2.pre
 have old:∀{i:Nat} {h:Hp},wu i O=some h->uZ η' w' true (.loc i) h/\∀k,wq η' w' (.loc i) h k->wq J w (.loc i) h k/\k<w.heap.size:=by
  intro i h hi;obtain⟨wA,hF⟩:=H.own.1 i h hi;have hk:∀k,wq J w (.loc i) h k->w'.heap[k]?=w.heap[k]?:=fun k f=>hag _ (wA.wY f);refine⟨(wA.keep (w':=w') hk).mono hp,fun k f=>?_⟩;have f':=H.stands hp hi hk f;exact⟨f',wA.wY f'⟩
 refine⟨⟨H.pre.trans hp,H2.len,⟨fun i h hi=>?_,fun i j h h' k hi hj hij f f'=>?_⟩,H.fr.trans H2.fr (fun n hn=>hn.elim),H.qN⟩,hag⟩
 .rcases Jg hi with hi|⟨_,hi⟩
  .obtain⟨h1,h2⟩:=H2.own.1 i h hi;refine⟨h1,fun k f=> .inr ?_⟩;rcases h2 k f with h3|h3
   exact h3.elim;exact zP H.fr.size h3
  .obtain⟨h1,h2⟩:=old hi;exact⟨h1,fun k f=>(H.own.1 i h hi).2 k (h2 k f).1⟩
 .rcases Jg hi with hi|⟨_,hi⟩
  .rcases Jg hj with hj|⟨_,hj⟩
   exact H2.own.2 i j h h' k hi hj hij f f'
   .have h1:=((old hj).2 k f').2;rcases(H2.own.1 i h hi).2 k f with h3|h3
    exact h3.elim
    .have h3:w.heap.size<=k:=h3;omega
  .rcases Jg hj with hj|⟨_,hj⟩
   .have h1:=((old hi).2 k f).2;rcases(H2.own.1 j h' hj).2 k f' with h3|h3
    exact h3.elim
    .have h3:w.heap.size<=k:=h3;omega
   exact H.own.2 i j h h' k hi hj hij ((old hi).2 k f).1 ((old hj).2 k f').1
theorem Za7{v:SV}{K:Prop}(h:HW v K):oJ v/\K:=by
 cases v with
 |agg cs=>
  simp only[HW]at h;split at h
  rename_i e;exact⟨oJ.of (by simpa only[fU]using e),h⟩;exact⟨h.p,h.k⟩
 |wM cs=>
  simp only[HW]at h;split at h
  rename_i e;exact⟨oJ.of (by simpa only[fU]using e),h⟩;exact⟨h.p,h.k⟩
 |_=>first|exact⟨h.p,h.k⟩|exact⟨oJ.of rfl,h⟩
theorem MR{P:Program}{C':Cx}(hT:qa P C'.T){N:World->Prop}{o:Oper}{a:Act}{fr:Fr}{nx N0:Nat}{K:SV->Prop}(hf:gI J a fr)
 (hN:∀w',N w'->uY ⟨P,C',w',fun _=>False,J,none⟩ J w' [] nx) (hw:N w) (h:Kf N0 C' o fr nx K):
 JN N0 o.dst=true/\∃u v,(∀w',N w'->(execOp a.eval o).run P w'= .ok (.value u) w'\/((execOp a.eval o).run P w'= .ok .skip w'/\u=undef))/\Den J v u/\K v:=by
 unfold Kf at h;split at h
 exact h.out.elim;rename_i hd;refine⟨hd,?_⟩;split at h
 .rename_i x ho;split at h
  case h_2=>exact h.out.elim
  rename_i v hv;exact⟨a.eval x,v,fun w' _=> .inl (by simp[execOp,ho]),YA hf hv,h⟩
 .rename_i x ho;split at h
  case h_2=>exact h.out.elim
  rename_i v hv;exact⟨a.eval x,v,fun w' _=> .inl (by simp[execOp,ho]),YA hf hv,h⟩
 .split at h
  exact h.out.elim;rename_i hst;obtain⟨v,hok,h⟩:=wW.pF h;obtain⟨CW,h⟩:=Za7 h
  have one:∀w',N w'->∃u,((execOp a.eval o).run P w'= .ok (.value u) w'\/((execOp a.eval o).run P w'= .ok .skip w'/\u=undef))/\Den J v u:=by
   intro w' hw';have H:=hN w' hw';obtain⟨u,w'',η'',h1,h2,h3,h4,h5⟩:=Cq (M:=⟨P,C',w',fun _=>False,J,none⟩) (w:=w') (ρ:=a.eval) ⟨H,hT,fun x sv hx=>YA hf hx⟩ o (hok [] nx);have he:η''=J:=(h2.eq_of_length (by rw[H.len,h3.len])).symm;subst he;have hww:=h5 hst rfl;subst hww;exact⟨u,h1,h4⟩
  obtain⟨u,h1,h2⟩:=one w hw;refine⟨u,v,fun w' hw'=>?_,h2,h⟩;obtain⟨u',h3,h4⟩:=one w' hw';rw[CW J u u' h2 h4];exact h3
end
def SS(ks:List Nat)(wc:World)(l:Array Bool)(w:World):Prop:=(∀k∈ks,l.getD k false=false)->agree wc w
section
variable {M:Mx}{ops:Array Oper}{Q:Exit->Act->World->Prop}
theorem J2{i m:Nat}{rest:wP}(h:m≠0):ZG (.take i m rest)=ZG rest:=by
 cases m with
 |zero=>exact(h rfl).elim
 |succ m=>rfl
theorem Z8n{i:Nat}{rest:wP}:ZG (.take i 0 rest)=i::ZG rest:=rfl
theorem Z17{l:Array Bool}{i:Nat}(h:l.getD i true=false):l.getD i false=false:=by
 rcases y9 i l.size with h'|h'
 simp[h']at h⊢;exact h;simp[xP h']at h
theorem WH{J:Env}{fr:Fr}{O:w9}{nx:Nat}{a:Act}{w:World}(hm:wz M J fr O nx a w){o:Oper}(hd:JN M.C.N o.dst=true){u:Value}{v:SV}(hv:Den J v u){Kp:Fr->Prop}(hk:qQ o.dst v fr Kp):
 ∃fr',Kp fr'/\wz M J fr' O nx (a.put o.dst u) w:=hm.put hd zw hm.heap hv hk
theorem UA(hQ:∀c a w, ¬Q (.panic c) a w)(hs:Region.noSelect ops=true){i n:Nat}{o:Oper}{l:Array Bool}{ks:List Nat}(ho:ops[i]?=some o)(fV:i∈Region.ready .any ops l)(hfree:Region.free .any ops l i=true)(hne:∀k∈ks,k≠i)(hc:j8 .any ops l)
 {N:World->Prop} {wc:World} (hN:∀l w,j8 .any ops l->l.getD i true=false->SS ks wc l w->N w) {a:Act} {w:World} {u:Value} (hy:kQ M.P ops N o u a) (hag:agree wc w)
 (h:bP M.wS M.P .any ops Q (SS ks wc) n (l.setIfInBounds i true) (a.put o.dst u) w):bP M.wS M.P .any ops Q (SS ks wc) (n+1) l a w:=by
 refine ZeB M.all ho (Region.noSelect_spec hs) (fun c a w hq=>(hQ _ _ _ hq).elim) hN (fun l' w' bq hun hr hS hk=>hS fun k hk'=>?_) n l a w hc (Region.free_spec ho hfree) fV hy (fun _=>hag) (fun _=>hag) h;rw[getD_set_ne false (yX (hne k hk'))];exact hk k hk'
theorem uY.drawn{J:Env}{w:World}{O:w9}{nx:Nat}(H:uY M J w O nx){n:Nat}(hn:w.drawn<=n):uY M J {w with drawn:=n} O nx:=
 ⟨H.pre,H.len,H.own.still rfl,⟨H.fr.os,H.fr.tape,H.fr.output,zP H.fr.drawn hn,H.fr.size,H.fr.block⟩,H.qN⟩
theorem MS{m:Nat}(h:tA m=true):m=0\/m=3:=by
 unfold tA at h;simpa using h
theorem ZP{i m:Nat}{l:List Nat}{x:Nat}(h:x∈l):x∈iY i m l:=by
 cases m with
 |zero=>exact zV _ h
 |succ m=>exact h
theorem V9{i:Nat}{l:List Nat}:i∈iY i 0 l:=y5 ..
theorem Zjm(hT:qa M.P M.C.T){i m:Nat}(Gy:m=0\/m=3){fr:Fr}{O:w9}{nx:Nat}{Kn:Fr->w9->Nat->Prop}(h:qR M ops.toList i m fr O nx Kn){J:Env}{a:Act}{w:World}(hm:wz M J fr O nx a w){R:Act->World->Prop}
 (hR:∀{fr:Fr} {O:w9} {nx:Nat} {J:Env} {a:Act} {w':World},Kn fr O nx->wz M J fr O nx a w'->(m=3->agree w w')->R a w'):wpOpIn M.wS 0 M.P ops Q i R a w:=by
 unfold qR at h;split at h
 exact h.out.elim;rename_i o ho;have ho:ops[i]?=some o:=by rw[VV]at ho;simpa using ho
 have skip:∀{fr':Fr},wz M J fr' O nx a w->Region.wanted o (yielded ops a.tmps)≠true->(match JN M.C.N o.dst with|true=>qQ o.dst YS fr' fun fr=>Kn fr O nx|false=>qc "slot")->wpOpIn M.wS 0 M.P ops Q i R a w:=by
  intro fr' hm' hw h;split at h
  case h_2=>exact h.out.elim
  rename_i hd;obtain⟨cw,h1,h2⟩:=WH hm' hd (V7 J) h;unfold wpOpIn;simp only[ho];rw[z7 hw];exact⟨fun f _=>M.all f,hR h1 h2 fun _=>agree.refl w⟩
 have go:∀{fr':Fr},wz M J fr' O nx a w->Region.wanted o (yielded ops a.tmps)=true->(Gx M m o fr' O nx fun v O nx=>qQ o.dst v fr' fun fr=>Kn fr O nx)->wpOpIn M.wS 0 M.P ops Q i R a w:=by
  intro fr' hm' hw h;unfold wpOpIn;simp only[ho];rw[zh hw];rcases Gy with rfl|rfl
  .have h:mc M o (V2 fr') O nx fun v O nx=>qQ o.dst v fr' fun fr=>Kn fr O nx:=h;refine(VG hT hm' (fun x sv hx=>YA hm'.frame hx) h fun u v O' w8 η' w' hd hp hH hv hk=>?_);obtain⟨cw,h1,h2⟩:=hm'.put hd hp hH hv hk;exact hR h1 h2 fun h=>by cases h
  .have h:qJ M o fr' O nx fun v O nx=>qQ o.dst v fr' fun fr=>Kn fr O nx:=h;have hm2:wz (aK M O J w) J fr' [] nx a w:=⟨hm'.heap.read (agree.refl w),hm'.size,hm'.cN,hm'.defers,hm'.ro,hm'.frame⟩;refine(VG (M:=aK M O J w) hT hm2 (fun x sv hx=>YA hm'.frame hx) (h.hout J w hm'.heap) fun u v O2 ng η' w' hd hp hH hv hk=>?_);obtain⟨hJ,nh⟩:=hm'.heap.join hH;obtain⟨cw,h1,h2⟩:=hm'.put hd hp hJ hv hk;exact hR h1 h2 fun _=>nh
 split at h
 .rename_i hg;exact go hm (Uu hg) h
 .rename_i j want hg;split at h
  exact h.out.elim;rename_i s gE;split at h
  .rename_i b hb;have kS:=X3 (hm.frame s _ hb);have hy:=Uc gE kS;cases b with
   |true=>
    have h:=h.t rfl;have hm':wz M J ((s, .bool true)::fr) O nx a w:=hm.know hb rfl rfl kS;cases want with
    |true=>exact go hm' ((Zz hg).2 hy) h
    |false=>exact skip hm' (fun hw=>by rw[Zz hg,hy]at hw;cases hw) h
   |false=>
    have h:=h.f rfl;have hm':wz M J ((s, .bool false)::fr) O nx a w:=hm.know hb rfl rfl kS;cases want with
    |false=>exact go hm' ((Zz hg).2 hy) h
    |true=>exact skip hm' (fun hw=>by rw[Zz hg,hy]at hw;cases hw) h
  .rename_i hb;have kS:=hm.frame s _ hb;simp only[Den,w6]at kS;obtain⟨vs,kS,rfl⟩:=kS;exact skip hm (fun hw=>by rw[Zz hg]at hw;exact Ut gE (by rw[kS];simp) hw) h
  exact h.out.elim
theorem arm(hT:qa M.P M.C.T){fk t:wP}{d:Nat}{fr:Fr}{O:w9}{nx:Nat}{K:Fr->w9->Nat->Prop}{J:Env}{a:Act}{w wc:World}{l:Array Bool}(hm:wz M J fr O nx a w)(hag:agree wc w)(hc:j8 .any ops l)
 {x m:Nat} (hmo:tA m=true) (hx:x∈Region.ready .any ops l) (HX:m=0->x∈ZG fk) (hsub:∀k∈ZG t,k∈ZG fk) (hd:t.depth=d)
 (ih:∀{fr:Fr} {O:w9} {nx:Nat} {J:Env} {a:Act} {w wc:World},qU M ops.toList t fr O nx K->wz M J fr O nx a w->agree wc w->bP M.wS M.P .any ops Q (SS (ZG t) wc) t.depth (l.setIfInBounds x true) a w)
 (hrun:qR M ops.toList x m fr O nx fun fr O nx=>qU M ops.toList t fr O nx K):
 wpOpIn M.wS 0 M.P ops Q x (fun a' w'=>SS (ZG fk) wc (l.setIfInBounds x true) w'/\bP M.wS M.P .any ops Q (SS (ZG fk) wc) d (l.setIfInBounds x true) a' w') a w:=by
 have hin:x<l.size:=by
  obtain⟨h1,o,ho,_⟩:=mem_ready.1 hx;rw[hc.1];exact(zz.1 ho).1
 have ku:(l.setIfInBounds x true).getD x false=true:=by simp[hin]
 refine Zjm hT (MS hmo) hrun hm fun{fr O nx J a w'} hk hm' iZ=>?_;rcases MS hmo with h0|h3
 .have hno:∀l' w',cD (l.setIfInBounds x true) l'->SS (ZG fk) wc l' w':=by
   intro l' w' hg hk;have h1:=hk x (HX h0);rw[hg x ku]at h1;cases h1
  refine⟨hno _ _ (fun _ h=>h),?_⟩;have:=ih hk hm' (agree.refl _);rw[hd]at this;exact Gr (l0:=l.setIfInBounds x true) (fun l' w' hg _=>hno l' w' hg) _ _ _ _ (fun _ h=>h) this
 .have nh:agree wc w':=hag.trans (iZ h3);refine⟨fun _=>nh,?_⟩;have:=ih hk hm' nh;rw[hd]at this;exact Gr (l0:=l.setIfInBounds x true) (fun l' w'' hg hS hk=>hS fun k hkt=>hk k (hsub k hkt)) _ _ _ _ (fun _ h=>h) this
theorem XM(hT:qa M.P M.C.T)(hQ:∀c a w, ¬Q (.panic c) a w)(hs:Region.noSelect ops=true):∀(steps:wP) {fr:Fr} {O:w9} {nx:Nat} {K:Fr->w9->Nat->Prop},qU M ops.toList steps fr O nx K->
 ∀{l:Array Bool},Jk ops (nQ ops.toList []) steps l=true->j8 .any ops l->∀{J:Env} {a:Act} {w:World},wz M J fr O nx a w->(∀J fr O nx a w,wz M J fr O nx a w->K fr O nx->Q .normal a w)->
 ∀{wc:World},agree wc w->bP M.wS M.P .any ops Q (SS (ZG steps) wc) steps.depth l a w
 | .nil,fr,O,nx,K,h,l,hl,hc,J,a,w,hm,hq,wc,hag=>by
   simp only[Jk,List.isEmpty_iff]at hl;exact⟨hl,hq J fr O nx a w hm h⟩
 | .take i m rest,fr,O,nx,K,h,l,hl,hc,J,a,w,hm,hq,wc,hag=>by
   have IH:= @XM hT hQ hs rest
   replace h:qR M ops.toList i m fr O nx (fun fr O nx=>qU M ops.toList rest fr O nx K):=h
   unfold qR at h;split at h
   exact h.out.elim;rename_i o ho;have ho:ops[i]?=some o:=by rw[VV]at ho;simpa using ho
   simp only[Jk,zk]at hl;obtain⟨ga,nL⟩:=hl
   have fV:i∈Region.ready .any ops l:=by
    revert ga;split<;>intro ga
    rw[x5.1 ga];exact zL.2 rfl;simp only[zk]at ga;simpa using ga.1.1;simp only[zk]at ga;simpa using ga.1.1;rw[x5.1 ga];exact zL.2 rfl
   have bq:=hc.set fV;have hin:i<l.size:=by rw[hc.1];exact(zz.1 ho).1
   have ku:(l.setIfInBounds i true).getD i false=true:=by simp[hin]
   have tB:∀{p:Prop},(m=0->p)->(m=1->p)->(m=2->p)->(3<=m->p)->p:=by
    intro p h0 h1 h2 h3
    match m,h0,h1,h2,h3 with
    |0,h0,_,_,_=>exact h0 rfl
    |1,_,h1,_,_=>exact h1 rfl
    |2,_,_,h2,_=>exact h2 rfl
    |m+3,_,_,_,h3=>exact h3 (by omega)
   have alone:Region.ready .any ops l=[i]->∀{a:Act} {w:World},agree wc w->wpOpIn M.wS 0 M.P ops Q i (fun a' w'=>SS (ZG (.take i m rest)) wc (l.setIfInBounds i true) w'/\bP M.wS M.P .any ops Q (SS (ZG (.take i m rest)) wc) rest.depth (l.setIfInBounds i true) a' w') a w->
    bP M.wS M.P .any ops Q (SS (ZG (.take i m rest)) wc) (wP.take i m rest).depth l a w:=fun hr a w hag h=>Zjl hr h
   have bu:m=0->∀{fr:Fr} {O:w9} {nx:Nat} {J:Env} {a:Act} {w:World},qU M ops.toList rest fr O nx K->wz M J fr O nx a w->
    SS (ZG (.take i m rest)) wc (l.setIfInBounds i true) w/\bP M.wS M.P .any ops Q (SS (ZG (.take i m rest)) wc) rest.depth (l.setIfInBounds i true) a w:=by
    intro h0 fr O nx J a w hrun hm;subst h0;rw[Z8n]
    have hno:∀l' w',cD (l.setIfInBounds i true) l'->SS (i::ZG rest) wc l' w':=by
     intro l' w' hg hk;have h1:=hk i (y5 ..);rw[hg i ku]at h1;cases h1
    exact⟨hno _ _ (fun _ h=>h),Gr (l0:=l.setIfInBounds i true) (fun l' w' hg _=>hno l' w' hg) _ _ _ _ (fun _ h=>h) (IH hrun nL bq hm hq (agree.refl w))⟩
   have jW:m≠0->∀{fr:Fr} {O:w9} {nx:Nat} {J:Env} {a:Act} {w:World},qU M ops.toList rest fr O nx K->wz M J fr O nx a w->agree wc w->
    SS (ZG (.take i m rest)) wc (l.setIfInBounds i true) w/\bP M.wS M.P .any ops Q (SS (ZG (.take i m rest)) wc) rest.depth (l.setIfInBounds i true) a w:=by
    intro h0 fr O nx J a w hrun hm hag;rw[J2 h0];exact⟨fun _=>hag,IH hrun nL bq hm hq hag⟩
   have bQ:m=1->Region.free .any ops l i=true/\∀k∈ZG rest,k≠i:=by
    intro h1;subst h1;simp only[zk,zR,bne_iff_ne]at ga;exact⟨ga.1.2,ga.2⟩
   have cE:m=2->Region.free .any ops l i=true/\∀k∈ZG rest,k≠i/\((nQ ops.toList []).getD k 0).testBit i=true:=by
    intro h1;subst h1;simp only[zk,zR,bne_iff_ne]at ga;exact⟨ga.1.2,ga.2⟩
   have mQ:m=0->Region.ready .any ops l=[i]:=by intro h1;subst h1;exact x5.1 ga
   have mR:3<=m->Region.ready .any ops l=[i]:=by
    intro h1
    match m,h1,ga with
    |m+3,_,ga=>exact x5.1 ga
   have skip:∀{fr':Fr},wz M J fr' O nx a w->Region.wanted o (yielded ops a.tmps)≠true->(match JN M.C.N o.dst with|true=>qQ o.dst YS fr' fun fr=>qU M ops.toList rest fr O nx K|false=>qc "slot")->
    bP M.wS M.P .any ops Q (SS (ZG (.take i m rest)) wc) (wP.take i m rest).depth l a w:=by
    intro fr' hm' hw h;split at h
    case h_2=>exact h.out.elim
    rename_i hd;obtain⟨cw,h1,h2⟩:=WH hm' hd (V7 J) h;have hwf:Region.wanted o (yielded ops a.tmps)=false:=by simpa using hw
    have op:∀{K':Act->World->Prop},K' (a.put o.dst undef) w->wpOpIn M.wS 0 M.P ops Q i K' a w:=by
     intro K' hk;unfold wpOpIn;simp only[ho];rw[z7 hw];exact⟨fun f _=>M.all f,hk⟩
    refine tB (fun h0=>alone (mQ h0) hag (op (bu h0 h1 h2))) (fun h0=>?_) (fun h0=>?_) (fun h0=>alone (mR h0) hag (op (jW (by omega) h1 h2 hag)))
    .have hn:m≠0:=by omega
     have:=(jW hn h1 h2 hag).2;rw[J2 hn]at this⊢;exact UA hQ hs ho fV (bQ h0).1 (bQ h0).2 hc (N:=fun _=>True) (fun _ _ _ _ _=>trivial) (.inr ⟨hwf,rfl⟩) hag this
    .have hn:m≠0:=by omega
     have:=(jW hn h1 h2 hag).2;rw[J2 hn]at this⊢;exact UA hQ hs ho fV (cE h0).1 (fun k hk=>((cE h0).2 k hk).1) hc (N:=fun _=>True) (fun _ _ _ _ _=>trivial) (.inr ⟨hwf,rfl⟩) hag this
   have go:∀{fr':Fr},wz M J fr' O nx a w->Region.wanted o (yielded ops a.tmps)=true->(Gx M m o fr' O nx fun v O nx=>qQ o.dst v fr' fun fr=>qU M ops.toList rest fr O nx K)->
    bP M.wS M.P .any ops Q (SS (ZG (.take i m rest)) wc) (wP.take i m rest).depth l a w:=by
    intro fr' hm' hw h
    have op:∀{K':Act->World->Prop},o.wpIn M.wS 0 M.P a w K' Q->wpOpIn M.wS 0 M.P ops Q i K' a w:=by
     intro K' hk;unfold wpOpIn;simp only[ho];rw[zh hw];exact hk
    refine tB (fun h0=>?_) (fun h0=>?_) (fun h0=>?_) (fun h0=>?_)
    .have h:mc M o (V2 fr') O nx fun v O nx=>qQ o.dst v fr' fun fr=>qU M ops.toList rest fr O nx K:=by subst h0;exact h
     refine alone (mQ h0) hag (op (VG hT hm' (fun x sv hx=>YA hm'.frame hx) h fun u v O' w8 η' w' hd hp hH hv hk=>?_));obtain⟨cw,h1,h2⟩:=hm'.put hd hp hH hv hk;exact bu h0 h1 h2
    .have h:Kf M.C.N (Gv M.C) o fr' nx fun v=>qQ o.dst v fr' fun fr=>qU M ops.toList rest fr O nx K:=by subst h0;exact h
     obtain⟨hd,u,v,hy,hv,hk⟩:=MR (P:=M.P) (C':=Gv M.C) ⟨hT.jk,hT.info,hT.zero,hT.sY,hT.flat,hT.key⟩ (N:=fun _=>True) (w:=w) hm'.frame (fun w' _=>uY.blind (M:=M) hm'.heap.len w') trivial h;obtain⟨cw,h1,h2⟩:=WH hm' hd hv hk;have hn:m≠0:=by omega
     have:=(jW hn h1 h2 hag).2;rw[J2 hn]at this⊢;exact UA hQ hs ho fV (bQ h0).1 (bQ h0).2 hc (N:=fun _=>True) (fun _ _ _ _ _=>trivial) (.inl ⟨hw,fun w' h=>hy w' h⟩) hag this
    .have h:Kf M.C.N (Ke M.C O) o fr' nx fun v=>qQ o.dst v fr' fun fr=>qU M ops.toList rest fr O nx K:=by subst h0;exact h
     obtain⟨hd,u,v,hy,hv,hk⟩:=MR (P:=M.P) (C':=Ke M.C O) hT (N:=agree w) hm'.frame (fun w' h=>hm'.heap.read h) (agree.refl w) h;obtain⟨cw,h1,h2⟩:=WH hm' hd hv hk;have hn:m≠0:=by omega
     have:=IH h1 nL bq h2 hq (agree.refl w);rw[J2 hn];refine Gr (S':=SS (ZG rest) w) (l0:=l) (fun l' w' _ hS hk=>hag.trans (hS hk)) _ _ _ _ (fun _ h=>h) ?_;refine UA hQ hs ho fV (cE h0).1 (fun k hk=>((cE h0).2 k hk).1) hc (N:=agree w) (fun l' w' jm hun hS=>hS fun k hk=>?_) (.inl ⟨hw,fun w' h=>hy w' h⟩) (agree.refl w) this;cases hlk:l'.getD k false with
     |false=>rfl
     |true=>
      have:=Z8m jm k ((cE h0).2 k hk).2 hlk;rw[Z17 hun]at this;cases this
    .have h:qJ M o fr' O nx fun v O nx=>qQ o.dst v fr' fun fr=>qU M ops.toList rest fr O nx K:=by
      match m,h0,h with
      |m+3,_,h=>exact h
     have hm2:wz (aK M O J w) J fr' [] nx a w:=⟨hm'.heap.read (agree.refl w),hm'.size,hm'.cN,hm'.defers,hm'.ro,hm'.frame⟩;refine alone (mR h0) hag (op (VG (M:=aK M O J w) hT hm2 (fun x sv hx=>YA hm'.frame hx) (h.hout J w hm'.heap) fun u v O2 ng η' w' hd hp hH hv hk=>?_));obtain⟨hJ,nh⟩:=hm'.heap.join hH;obtain⟨cw,h1,h2⟩:=hm'.put hd hp hJ hv hk;exact jW (by omega) h1 h2 (hag.trans nh)
   split at h
   .rename_i hg;exact go hm (Uu hg) h
   .rename_i j want hg;split at h
    exact h.out.elim;rename_i s gE;split at h
    .rename_i b hb;have kS:=X3 (hm.frame s _ hb);have hy:=Uc gE kS;cases b with
     |true=>
      have h:=h.t rfl;have hm':wz M J ((s, .bool true)::fr) O nx a w:=hm.know hb rfl rfl kS;cases want with
      |true=>exact go hm' ((Zz hg).2 hy) h
      |false=>exact skip hm' (fun hw=>by rw[Zz hg,hy]at hw;cases hw) h
     |false=>
      have h:=h.f rfl;have hm':wz M J ((s, .bool false)::fr) O nx a w:=hm.know hb rfl rfl kS;cases want with
      |false=>exact go hm' ((Zz hg).2 hy) h
      |true=>exact skip hm' (fun hw=>by rw[Zz hg,hy]at hw;cases hw) h
    .rename_i hb;have kS:=hm.frame s _ hb;simp only[Den,w6]at kS;obtain⟨vs,kS,rfl⟩:=kS;exact skip hm (fun hw=>by rw[Zz hg]at hw;exact Ut gE (by rw[kS];simp) hw) h
    exact h.out.elim
 | .fork i mi j mj p q,fr,O,nx,K,h,l,hl,hc,J,a,w,hm,hq,wc,hag=>by
   simp only[Jk,zk,x5]at hl;obtain⟨⟨⟨⟨⟨hr,CX⟩,Q0⟩,Q1⟩,hlp⟩,Q2⟩:=hl
   replace h:j9 (qR M ops.toList i mi fr O nx fun fr O nx=>qU M ops.toList p fr O nx K) (qR M ops.toList j mj fr O nx fun fr O nx=>qU M ops.toList q fr O nx K):=h
   have hi:i∈Region.ready .any ops l:=by rw[hr];simp
   have hj:j∈Region.ready .any ops l:=by rw[hr];simp
   refine⟨fun h0=>(by rw[hr]at h0;cases h0),fun x hx=>?_⟩;rw[hr]at hx;rcases zK.1 hx with rfl|hx
   exact arm hT hm hag hc CX hi (fun h0=>by subst h0;exact V9) (fun k hk=>ZP (ZP (vH _ hk))) rfl (fun hk hm' hag=>XM hT hQ hs p hk hlp (hc.set hi) hm' hq hag) h.a
   .have hx:=zL.1 hx;subst hx;exact arm hT hm hag hc Q0 hj (fun h0=>by subst h0;exact ZP V9) (fun k hk=>ZP (ZP (xU _ hk))) Q1.symm (fun hk hm' hag=>XM hT hQ hs q hk Q2 (hc.set hj) hm' hq hag) h.b
 | .pH i mi j mj k mk p q r,fr,O,nx,K,h,l,hl,hc,J,a,w,hm,hq,wc,hag=>by
   simp only[Jk,zk,x5]at hl;obtain⟨⟨⟨⟨⟨⟨⟨⟨hr,CX⟩,Q0⟩,hmk⟩,Q1⟩,Gz⟩,hlp⟩,Q2⟩,hlr⟩:=hl
   replace h:j9 (qR M ops.toList i mi fr O nx fun fr O nx=>qU M ops.toList p fr O nx K) (j9 (qR M ops.toList j mj fr O nx fun fr O nx=>qU M ops.toList q fr O nx K) (qR M ops.toList k mk fr O nx fun fr O nx=>qU M ops.toList r fr O nx K)):=h
   have hi:i∈Region.ready .any ops l:=by rw[hr];simp
   have hj:j∈Region.ready .any ops l:=by rw[hr];simp
   have hk':k∈Region.ready .any ops l:=by rw[hr];simp
   refine⟨fun h0=>(by rw[hr]at h0;cases h0),fun x hx=>?_⟩;rw[hr]at hx;rcases zK.1 hx with rfl|hx
   exact arm hT hm hag hc CX hi (fun h0=>by subst h0;exact V9) (fun k hk=>ZP (ZP (ZP (vH _ hk)))) rfl (fun hk hm' hag=>XM hT hQ hs p hk hlp (hc.set hi) hm' hq hag) h.a
   .rcases zK.1 hx with rfl|hx
    exact arm hT hm hag hc Q0 hj (fun h0=>by subst h0;exact ZP V9) (fun k hk=>ZP (ZP (ZP (xU _ (vH _ hk))))) Q1.symm (fun hk hm' hag=>XM hT hQ hs q hk Q2 (hc.set hj) hm' hq hag) h.b.a
    .have hx:=zL.1 hx;subst hx;exact arm hT hm hag hc hmk hk' (fun h0=>by subst h0;exact ZP (ZP V9)) (fun k hk=>ZP (ZP (ZP (xU _ (xU _ hk))))) Gz.symm (fun hk hm' hag=>XM hT hQ hs r hk hlr (hc.set hk') hm' hq hag) h.b.b
 | .join p,fr,O,nx,K,h,l,hl,hc,J,a,w,hm,hq,wc,hag=>by
   replace h:b5 (fun fr=>qU M ops.toList p fr O nx K) fr:=h
   obtain⟨fr',he,h⟩:=h.out;have hm':wz M J fr' O nx a w:=⟨hm.heap,hm.size,hm.cN,(by rw[he];exact hm.defers),hm.ro,fun t sv ht=>hm.frame t sv (by rw[<-he];exact ht)⟩;exact XM hT hQ hs p h hl hc hm' hq hag
theorem wO.of{M:Mx}(hT:qa M.P M.C.T)(hP:M.P.follows .mixedOrders=true){id:Nat}{ops:Array Oper}{fr:Fr}{O:w9}{nx:Nat}{Q:Post}(steps:wP)(nq:CT ops steps=true)
 (h:qU M ops.toList steps fr O nx fun fr O nx=>Q .normal fr O nx):wO M id ops fr O nx Q:=by
 simp only[CT,zk,x5]at nq;obtain⟨⟨hs,hlen⟩,nq⟩:=nq;refine⟨fun J a w hm=>Code.wpIn_mono (Q:=fun e a w=>(∀ch,e≠ .panic ch)/\K2 M Q e a w) (fun e a w h=>h.2) (wpIn_region_any hP (MM (S:=SS (ZG steps) {w with drawn:=w.drawn+1}) _ _ _ _ ?_))⟩;have hm':wz M J fr O nx a {w with drawn:=w.drawn+1}:=⟨hm.heap.drawn (xN _),hm.size,hm.cN,hm.defers,hm.ro,hm.frame⟩
 have hc0:j8 .any ops (Array.replicate ops.size false):=by
  refine⟨by simp,fun j o hj hl=>?_⟩;rcases y9 j ops.size with h'|h'
  simp[h']at hl;simp[h']at hl
 have key:=XM (Q:=fun e a w=>(∀ch,e≠ .panic ch)/\K2 M Q e a w) hT (fun c a w hq=>hq.1 c rfl) hs steps h nq hc0 hm' (fun J fr O nx a w hm hq=>⟨(fun ch he=>by cases he),J,fr,O,nx,hm,hq⟩) (agree.refl _);rw[hlen]at key;exact key
end
section
variable {σ:Nat->Nat}{k:Nat}
theorem WK(h:∀j,j<k->σ j=j):∀{b:qP},r5 k b=true->qo σ b=b
 | .qf g,_=>rfl
 | .loc i,hb=>by simp only[r5,yS]at hb;simp only[qo,h i hb]
mutual
theorem Ug(h:∀j,j<k->σ j=j):∀{v:SV},ZV k v=true->wR σ v=v
 | .bool _,_=>rfl
 | .int _ _,_=>rfl
 | .str _,_=>rfl
 | .val _,_=>rfl
 | .any,_=>rfl
 | .nb _,_=>rfl
 | .eE l,hb=>by simp only[ZV]at hb;simp only[wR,Xj h hb]
 | .yf b,hb=>by simp only[ZV]at hb;simp only[wR,WK h hb]
 | .mp b,hb=>by simp only[ZV]at hb;simp only[wR,WK h hb]
 | .ptr b _ _ _,hb=>by simp only[ZV]at hb;simp only[wR,WK h hb]
 | .sl b _ _ _ _,hb=>by simp only[ZV]at hb;simp only[wR,WK h hb]
 | .agg cs,hb=>by simp only[ZV]at hb;simp only[wR,Xj h hb]
 | .arr _ rs,hb=>by simp only[ZV]at hb;simp only[wR,Va h hb]
 | .wM vs,hb=>by simp only[ZV]at hb;simp only[wR,Xj h hb]
 | .dX _ v,hb=>by simp only[ZV]at hb;simp only[wR,Ug h hb]
 | .fn _ a b,hb=>by simp only[ZV,zk]at hb;simp only[wR,Xj h hb.1,Xj h hb.2]
theorem Xj(h:∀j,j<k->σ j=j):∀{vs:List SV},ZO k vs=true->qg σ vs=vs
 | [],_=>rfl
 |c::cs,hb=>by simp only[ZO,zk]at hb;simp only[qg,Ug h hb.1,Xj h hb.2]
theorem Va(h:∀j,j<k->σ j=j):∀{vs:List (List SV)},Yw k vs=true->Xo σ vs=vs
 | [],_=>rfl
 |c::cs,hb=>by simp only[Yw,zk]at hb;simp only[Xo,Xj h hb.1,Va h hb.2]
end
theorem Lh(h:∀j,j<k->σ j=j):∀{fr:Fr},r6 k fr=true->gM σ fr=fr
 | [],_=>rfl
 |(t,v)::r,hb=>by
  simp only[r6,zk]at hb;simp only[gM,Ug h hb.1,Lh h hb.2]
theorem ZcT(h:∀j,j<k->σ j=j):∀{c:DC},rS k c=true->eW σ c=c
 | .v s,hb=>by simp only[rS]at hb;simp only[eW,Ug h hb]
 | .wZ _ rs,hb=>by simp only[rS]at hb;simp only[eW,Va h hb]
theorem Li(h:∀j,j<k->σ j=j):∀{r:List DC},XC k r=true->pE σ r=r
 | [],_=>rfl
 |c::cs,hb=>by simp only[XC,zk]at hb;simp only[pE,ZcT h hb.1,Li h hb.2]
theorem Lj(h:∀j,j<k->σ j=j):∀{r:List (List DC)},YC k r=true->XL σ r=r
 | [],_=>rfl
 |c::cs,hb=>by simp only[YC,zk]at hb;simp only[XL,Li h hb.1,Lj h hb.2]
theorem WL(h:∀j,j<k->σ j=j):∀{hp:Hp},Zi k hp=true->wJ σ hp=hp
 | .deep _ _ _,hb=>by simp only[Zi]at hb;simp only[wJ,Lj h hb]
 | .box _,hb=>by simp only[Zi]at hb;simp only[wJ,Xj h hb]
 | .rows _ _,hb=>by simp only[Zi]at hb;simp only[wJ,Va h hb]
 | .qM _ _,_=>rfl
 | .ak _,_=>rfl
 | .jJ _ _ _,_=>rfl
 | .eP _,_=>rfl
 | .lp _ _ fr,hb=>by simp only[Zi]at hb;simp only[wJ,Lh h hb]
 | .mp _,hb=>by simp only[Zi]at hb;simp only[wJ,Va h hb]
theorem Ll(h:∀j,j<k->σ j=j):∀{O:w9},Zj k O=true->kJ σ O=O
 | [],_=>rfl
 |(i,hp)::r,hb=>by
  simp only[Zj,zk,yS]at hb;simp only[kJ,h i hb.1,WL h hb.2.1,Ll h hb.2.2]
end
variable {M:Mx}{fr fr':Fr}{O O':w9}{nx:Nat}
theorem ZeO{k i:Nat}(h:i<k):(List.range k).getD i 0=i:=by simp[List.getD,h]
theorem Zac{k nx j:Nat}(h:j<k):Zo (List.range k) nx j=j:=by
 simp only[Zo,yU,zh h,ZeO h]
def dB(O:w9):w9->Prop
 | []=>True
 |(i,h)::r=>match wu i O with
  |some g=>g=h/\dB O r
  |none=>False
def cF(C:Cx)(O:w9):w9->Prop
 | []=>True
 |(i,h)::r=>match Yk C O (.loc i)with
  |some g=>g=h/\cF C O r
  |none=>False
theorem dB.at{O:w9}:∀{Oc:w9},dB O Oc->∀p∈Oc,wu p.1 O=some p.2
 | [],_,p,hp=>by cases hp
 |(i,h)::r,hs,p,hp=>by
  simp only[dB]at hs;split at hs
  .rename_i g hg;obtain⟨rfl,hs⟩:=hs;rcases zK.1 hp with rfl|hp
   exact hg;exact dB.at hs p hp
  exact hs.elim
theorem cF.at{C:Cx}{O:w9}:∀{Sc:w9},cF C O Sc->∀p∈Sc,Yk C O (.loc p.1)=some p.2
 | [],_,p,hp=>by cases hp
 |(i,h)::r,hs,p,hp=>by
  simp only[cF]at hs;split at hs
  .rename_i g hg;obtain⟨rfl,hs⟩:=hs;rcases zK.1 hp with rfl|hp
   exact hg;exact cF.at hs p hp
  exact hs.elim
theorem Xk{k:Nat}:∀{O:w9},Zj k O=true->∀p∈O,p.1<k/\Zi k p.2=true
 | [],_,p,hp=>by cases hp
 |(i,h)::r,hb,p,hp=>by
  simp only[Zj,zk,yS]at hb;rcases zK.1 hp with rfl|hp
  exact⟨hb.1,hb.2.1⟩;exact Xk hb.2.2 p hp
theorem Xl{k:Nat}:∀{O:w9},Zj k O=true->∀j∈Zd O,j<k
 | [],_,j,hj=>by cases hj
 |(i,h)::r,hb,j,hj=>by
  simp only[Zj,zk,yS]at hb;rcases zK.1 hj with rfl|hj
  exact hb.1;exact Xl hb.2.2 j hj
theorem Lm{f:Nat->Nat}:∀{l:List Nat},(∀j∈l,f j=j)->l.map f=l
 | [],_=>rfl
 |x::l,h=>by simp only[zI,h x (y5 ..),Lm fun j hj=>h j (zV _ hj)]
theorem E5:∀{S:w9} {p:Nat×Hp},p∈S->p.1∈Zd S
 | [],p,hp=>by cases hp
 |(i,h)::S,p,hp=>by
  rcases zK.1 hp with rfl|hp
  exact y5 ..;exact zV _ (E5 hp)
theorem CALL.here{f:FuncId}{args:List SV}{K:SV->w9->Nat->Prop}{k:Nat}{Oc Sc:w9}{Q:SV->w9->Nat->Prop}(sp:uX M.P M.C.T f k args Oc Sc Q)
 (hk:Nat.ble k nx=true) (hb:ZO k args=true) (cS:Zj k Oc=true) (nR:Zj k Sc=true) (hO:dB O Oc) (hS:cF M.C O Sc)
 (hd:(Zd Sc).all (fun j=>!((Zd Oc).any (Nat.beq j)))=true)
 (hQ:∀r O' w8,Q r O' w8->w8=k/\ZV k r=true/\Zj k O'=true)
 (hK:∀r O',Q r O' k->K r (O'++ZY (Zd Oc) O) nx):CALL M f args O nx K:=by
 have hk:=zT hk;have hσ:∀j,j<k->Zo (List.range k) nx j=j:=fun j hj=>Zac hj;have mX:(Zd Oc).map (Zo (List.range k) nx)=Zd Oc:=Lm fun j hj=>hσ j (Xl cS j hj);refine CALL.of (List.range k) sp (by simp) (fun i hi=>by have:=yh.1 hi;omega) (Xj hσ hb).symm hb ?_ ?_ ?_ ?_
 .intro p hp;obtain⟨h1,h2⟩:=Xk cS p hp;exact⟨h1,by rw[hσ _ h1,WL hσ h2];exact hO.at p hp,h2⟩
 .intro j hj j' hj' he;rwa [hσ j (Xl cS j hj),hσ j' (Xl cS j' hj')]at he
 .intro p hp;obtain⟨h1,h2⟩:=Xk nR p hp;refine⟨h1,by rw[hσ _ h1,WL hσ h2];exact hS.at p hp,h2,?_⟩;rw[mX,hσ _ h1];intro hm;have hj:p.1∈Zd Sc:=E5 hp;have:=zR.1 hd _ hj;simp only[ud,vp]at this;have h3:(Zd Oc).any (Nat.beq p.1)=true:=xL.2 ⟨p.1,hm,Xh _⟩;rw[h3]at this;cases this
 .intro r O' w8 hq;obtain⟨rfl,h1,h2⟩:=hQ r O' w8 hq;have:=hK r O' hq;rw[Ug hσ h1,Ll hσ h2,mX];simpa using this
def jr(σ:Nat->Nat)(O:w9):w9->Prop
 | []=>True
 |(i,h)::r=>match wu (σ i) O with
  |some g=>g=wJ σ h/\jr σ O r
  |none=>False
def gh(C:Cx)(σ:Nat->Nat)(O:w9):w9->Prop
 | []=>True
 |(i,h)::r=>match Yk C O (.loc (σ i))with
  |some g=>g=wJ σ h/\gh C σ O r
  |none=>False
theorem jr.at{σ:Nat->Nat}{O:w9}:∀{Oc:w9},jr σ O Oc->∀p∈Oc,wu (σ p.1) O=some (wJ σ p.2)
 | [],_,p,hp=>by cases hp
 |(i,h)::r,hs,p,hp=>by
  simp only[jr]at hs;split at hs
  .rename_i g hg;obtain⟨rfl,hs⟩:=hs;rcases zK.1 hp with rfl|hp
   exact hg;exact jr.at hs p hp
  exact hs.elim
theorem gh.at{C:Cx}{σ:Nat->Nat}{O:w9}:∀{Sc:w9},gh C σ O Sc->∀p∈Sc,Yk C O (.loc (σ p.1))=some (wJ σ p.2)
 | [],_,p,hp=>by cases hp
 |(i,h)::r,hs,p,hp=>by
  simp only[gh]at hs;split at hs
  .rename_i g hg;obtain⟨rfl,hs⟩:=hs;rcases zK.1 hp with rfl|hp
   exact hg;exact gh.at hs p hp
  exact hs.elim
theorem CALL.at{f:FuncId}{args wX:List SV}{K:SV->w9->Nat->Prop}{k:Nat}{Oc Sc:w9}{Q:SV->w9->Nat->Prop}(L:List Nat)(sp:uX M.P M.C.T f k wX Oc Sc Q)
 (hL:L.length=k) (cZ:L.all (fun i=>Nat.blt i nx)=true) (ha:args=qg (Zo L nx) wX) (hb:ZO k wX=true) (cS:Zj k Oc=true) (nR:Zj k Sc=true) (hO:jr (Zo L nx) O Oc) (hS:gh M.C (Zo L nx) O Sc)
 (hinj:(Zd Oc).all (fun j=>(Zd Oc).all fun j'=>!(Nat.beq (Zo L nx j) (Zo L nx j'))||Nat.beq j j')=true)
 (hd:(Zd Sc).all (fun j=>!((Zd Oc).any fun j'=>Nat.beq (Zo L nx j) (Zo L nx j')))=true)
 (hK:∀r O' w8,Q r O' w8->K (wR (Zo L nx) r) (kJ (Zo L nx) O'++ZY ((Zd Oc).map (Zo L nx)) O) (nx+(w8-k))):CALL M f args O nx K:=by
 refine CALL.of L sp hL (fun i hi=>by have:=zR.1 cZ i hi;simpa[yS]using this) ha hb (fun p hp=>?_) (fun j hj j' hj' he=>?_) (fun p hp=>?_) hK
 .obtain⟨h1,h2⟩:=Xk cS p hp;exact⟨h1,hO.at p hp,h2⟩
 .have:=zR.1 (zR.1 hinj j hj) j' hj';simp only[he,Xh,vp,xJ]at this;exact Zs this
 .obtain⟨h1,h2⟩:=Xk nR p hp;refine⟨h1,hS.at p hp,h2,fun hm=>?_⟩;obtain⟨j',hj',he⟩:=zY.1 hm;have:=zR.1 hd _ (E5 hp);simp only[ud,vp]at this;have h3:(Zd Oc).any (fun j'=>Nat.beq (Zo L nx p.1) (Zo L nx j'))=true:=xL.2 ⟨j',hj',by rw[he];exact Xh _⟩;rw[h3]at this;cases this
theorem fK.at{f:FuncId}{args wX:List SV}{KP K:SV->w9->Nat->Prop}{k:Nat}{Oc Sc:w9}{Q X:SV->w9->Nat->Prop}(L:List Nat)(sp:aH M.P M.C.T f k wX Oc Sc Q X)
 (hL:L.length=k) (cZ:L.all (fun i=>Nat.blt i nx)=true) (ha:args=qg (Zo L nx) wX) (hb:ZO k wX=true) (cS:Zj k Oc=true) (nR:Zj k Sc=true) (hO:jr (Zo L nx) O Oc) (hS:gh M.C (Zo L nx) O Sc)
 (hinj:(Zd Oc).all (fun j=>(Zd Oc).all fun j'=>!(Nat.beq (Zo L nx j) (Zo L nx j'))||Nat.beq j j')=true)
 (hd:(Zd Sc).all (fun j=>!((Zd Oc).any fun j'=>Nat.beq (Zo L nx j) (Zo L nx j')))=true)
 (hK:∀r O' w8,Q r O' w8->K (wR (Zo L nx) r) (kJ (Zo L nx) O'++ZY ((Zd Oc).map (Zo L nx)) O) (nx+(w8-k)))
 (hX:∀r O' w8,X r O' w8->KP (wR (Zo L nx) r) (kJ (Zo L nx) O'++ZY ((Zd Oc).map (Zo L nx)) O) (nx+(w8-k))):fK M f args O nx KP K:=by
 refine fK.of L sp hL (fun i hi=>by have:=zR.1 cZ i hi;simpa[yS]using this) ha hb (fun p hp=>?_) (fun j hj j' hj' he=>?_) (fun p hp=>?_) hK hX
 .obtain⟨h1,h2⟩:=Xk cS p hp;exact⟨h1,hO.at p hp,h2⟩
 .have:=zR.1 (zR.1 hinj j hj) j' hj';simp only[he,Xh,vp,xJ]at this;exact Zs this
 .obtain⟨h1,h2⟩:=Xk nR p hp;refine⟨h1,hS.at p hp,h2,fun hm=>?_⟩;obtain⟨j',hj',he⟩:=zY.1 hm;have:=zR.1 hd _ (E5 hp);simp only[ud,vp]at this;have h3:(Zd Oc).any (fun j'=>Nat.beq (Zo L nx p.1) (Zo L nx j'))=true:=xL.2 ⟨j',hj',by rw[he];exact Xh _⟩;rw[h3]at this;cases this
theorem wh.at{k:Nat}{r:SV}{Q:SV->w9->Nat->Prop}(hk:M.η0.length=k)(Z:List Nat)(rc:SV)(Oc:w9)(hτ:Z.all (fun i=>Nat.blt i nx)=true)(hr:r=wR (YL k Z) rc)(hb:ZV (k+Z.length) rc=true)(cS:Zj (k+Z.length) Oc=true)
 (hO:jr (YL k Z) O Oc) (hinj:(Zd Oc).all (fun j=>(Zd Oc).all fun j'=>!(Nat.beq (YL k Z j) (YL k Z j'))||Nat.beq j j')=true) (hQ:Q rc Oc (k+Z.length)):wh M O nx r Q:=by
 refine wh.keep hk Z (rc:=rc) (Oc:=Oc) (fun i hi=>by have:=zR.1 hτ i hi;simpa[yS]using this) hr hb (fun p hp=>?_) (fun j hj j' hj' he=>?_) hQ
 .obtain⟨h1,h2⟩:=Xk cS p hp;exact⟨h1,hO.at p hp,h2⟩
 .have:=zR.1 (zR.1 hinj j hj) j' hj';simp only[he,Xh,vp,xJ]at this;exact Zs this
theorem Zhc{G:Prop}{body:Code}{Q:Post}{n:Nat}{X:Type}(P:X->Prop)(Ln:X->Fr)(Ox:X->w9)(h1:(∀x,P x->wj M body (Ln x) (Ox x) n Q)->G)(h2:∀x,P x->wj M body (Ln x) (Ox x) n Q):G:=h1 h2
theorem CALL.weak{f:FuncId}{args:List SV}{K:SV->w9->Nat->Prop}{O1:w9}{n1:Nat}(h:∀Y w,uY M Y w O nx->∃η',Y<+:η'/\uY M η' w O1 n1)(hc:CALL M f args O1 n1 K):CALL M f args O nx K:=by
 refine⟨fun Y w vs H hd=>?_⟩;obtain⟨η1,hp,H1⟩:=h Y w H;refine(hc.out η1 w vs H1 (w6.mono hp hd)).mono ?_;rintro v w' ⟨r,O',w8,η',h1,h2⟩;exact⟨r,O',w8,η',hp.trans h1,h2⟩
def mY(nx es:Nat):Nat->List SV->Option (List SV)
 |0, .val (.slice none 0 0)::r=>some (.sl (.loc nx) 0 es 0 none::r)
 |j+1,c::r=>match mY nx es j r with|some r=>some (c::r)|none=>none
 |_,_=>none
theorem Lo{nx es:Nat}:∀{j:Nat} {row row':List SV},mY nx es j row=some row'->∀(i:Nat) (sv:SV),row'[i]?=some sv->row[i]?=some sv\/(row[i]?=some (SV.val (.slice none 0 0))/\sv=SV.sl (.loc nx) 0 es 0 none)
 |0,[],_,h=>by simp[mY]at h
 |0,c::r,row',h=>by
  unfold mY at h;split at h
  .rename_i e1 e2;injection e2 with e2 e3;subst e2 e3;injection h with h;subst h;intro i sv hi;cases i with
   |zero=>simp at hi;subst hi;exact .inr ⟨rfl,rfl⟩
   |succ i=>exact .inl (by simpa using hi)
  simp_all
  cases h
 |j+1,[],_,h=>by simp[mY]at h
 |j+1,c::r,row',h=>by
  unfold mY at h;split at h
  .rename_i r1 hr;injection h with h;subst h;intro i sv hi;cases i with
   |zero=>left;simpa using hi
   |succ i=>
    have:=Lo hr i sv (by simpa using hi);simpa using this
  cases h
theorem uY.qC{Y:Env}{w:World}(H:uY M Y w O nx){i j es:Nat}{row row':List SV}(hi:wu i O=some (.box row))(hr:mY nx es j row=some row'):
 ∃η',Y<+:η'/\uY M η' w ((nx, .rows es [])::qh i (.box row') O) (nx+1):=by
 have hpre:Y<+:Y++ [none]:=zC _ _;have hnew:(Y++ [none])[nx]?=some none:=by rw[zx (by rw[H.len];omega),H.len];simp
 have hold:∀{i h},wu i O=some h->(Y++ [none])[i]?=Y[i]?:=fun{i h} hi=>by
  rw[zn (by rw[H.len];exact H.lt hi)]
 have hin:∀{a h},wu a (qh i (.box row') O)=some h->∃h0,wu a O=some h0/\uZ (Y++ [none]) w true (.loc a) h/\∀n,wq (Y++ [none]) w (.loc a) h n->wq Y w (.loc a) h0 n:=by
  intro a h ha;rw[Y0 _ _ _ _ (by rw[hi];rfl)]at ha;split at ha
  .rename_i e;subst e;injection ha with ha;subst ha;refine⟨_,hi,?_,fun n f=>H.stands hpre hi (fun _ _=>rfl) (show wq (Y++ [none]) w (.loc _) (.box row) n from f)⟩;have:=(H.own.1 _ _ hi).1.mono hpre;simp only[uZ]at this⊢;obtain⟨e,arr,T,fz,h1,h2,h3,h4⟩:=this;refine⟨e,arr,T,fz,h1,h2,h3,fun c sv hc=>?_⟩;rcases Lo hr c sv hc with bq|⟨bq,rfl⟩
   exact h4 c sv bq
   .obtain⟨v,h5,h6,h7⟩:=h4 c _ bq;refine⟨v,h5,h6,?_⟩;simp only[Den]at h7⊢;exact .inl ⟨hnew,h7.1,trivial⟩
  exact⟨h,ha,(H.own.1 _ _ ha).1.mono hpre,fun n f=>H.stands hpre ha (fun _ _=>rfl) f⟩
 refine⟨Y++ [none],hpre,H.pre.trans hpre,by simp[H.len],⟨fun a h ha=>?_,fun a b h h' n ha hb hab f f'=>?_⟩,H.fr,H.qN⟩
 .rw[Za]at ha;split at ha
  .rename_i e;subst e;injection ha with ha;subst ha
   exact⟨.inl ⟨hnew,rfl⟩,fun n f=>(wq.none (b:= .loc _) hnew f).elim⟩
  .obtain⟨h0,h1,h2,h3⟩:=hin ha;exact⟨h2,fun n f=>(H.own.1 a h0 h1).2 n (h3 n f)⟩
 .rw[Za]at ha hb;split at ha
  rename_i e1;subst e1;exact(wq.none (b:= .loc _) hnew f).elim
  .split at hb
   rename_i e2;subst e2;exact(wq.none (b:= .loc _) hnew f').elim
   .obtain⟨h0,h1,_,h3⟩:=hin ha;obtain⟨h0',gU,_,HQ⟩:=hin hb;exact H.own.2 a b h0 h0' n h1 gU hab (h3 n f) (HQ n f')
theorem CALL.qC{f:FuncId}{args:List SV}{K:SV->w9->Nat->Prop}(i j es:Nat){row row':List SV}(hi:wu i O=some (.box row))(hr:mY nx es j row=some row')(hc:CALL M f args ((nx, .rows es [])::qh i (.box row') O) (nx+1) K):CALL M f args O nx K:=
 CALL.weak (fun Y w H=>H.qC hi hr) hc
theorem wh.here{k:Nat}{r rc:SV}{Oc:w9}{Q:SV->w9->Nat->Prop}(hk:M.η0.length=k)(hr:r=rc)(hb:ZV k rc=true)(cS:Zj k Oc=true)(hO:dB O Oc)(hQ:Q rc Oc k):wh M O nx r Q:=by
 have hσ:∀j,j<k->YL k [] j=j:=fun j hj=>by simp[YL,hj]
 refine wh.keep hk [] (rc:=rc) (Oc:=Oc) (fun i hi=>by cases hi) (by rw[Ug hσ hb];exact hr) hb ?_ ?_ hQ
 .intro p hp;obtain⟨h1,h2⟩:=Xk cS p hp;exact⟨h1,by rw[hσ _ h1,WL hσ h2];exact hO.at p hp,h2⟩
 .intro j hj j' hj' he;rwa [hσ j (Xl cS j hj),hσ j' (Xl cS j' hj')]at he
def aL(k:Nat):List SV->List SV->Prop
 |_,[]=>True
 | [],_::_=>False
 |c::cs,c'::cs'=>(c'= .any\/(c'=c/\ZV k c=true))/\aL k cs cs'
theorem aL.get{k:Nat}:∀{row row':List SV},aL k row row'->∀(j:Nat) (sv:SV),row'[j]?=some sv->∃c,row[j]?=some c/\(sv= .any\/(sv=c/\ZV k c=true))
 |_,[],_,j,sv,h=>by simp at h
 | [],_::_,h,_,_,_=>h.elim
 |c::cs,c'::cs',h,0,sv,hj=>by simp at hj;subst hj;exact⟨c,rfl,h.1⟩
 |c::cs,c'::cs',h,j+1,sv,hj=>by simp at hj;obtain⟨d,h1,h2⟩:=aL.get h.2 j sv hj;exact⟨d,by simpa using h1,h2⟩
theorem wh.loose{k:Nat}{r:SV}{Q:SV->w9->Nat->Prop}(hk:M.η0.length=k)(i:Nat)(row':List SV){row:List SV}(hr:plain r=true)(hO:wu i O=some (.box row))(hi:Nat.blt i k=true)(hl:aL k row row')(hQ:Q r [(i, .box row')] k):wh M O nx r Q:=by
 refine⟨fun Y w v H hd=>⟨r,[(i, .box row')],k,M.η0,hQ,zw,?_,?_⟩⟩
 .have hi:i<k:=by simpa[yS]using hi
  have kZ:∀j,j<k->Y[j]?=M.η0[j]?:=fun j hj=>by
   obtain⟨t,ht⟩:=H.pre;rw[<-ht,zn (by omega)]
  have hb:dL Y M.η0 id k:=fun j x hj hx=>by rw[<-kZ j hj];exact hx
  have wA:uZ M.η0 w true (.loc i) (.box row'):=by
   have:=(H.own.1 i _ hO).1;simp only[uZ]at this⊢;obtain⟨e,arr,T,fz,h1,h2,h3,h4⟩:=this;refine⟨e,arr,T,fz,by simp only[Env.get]at h1⊢;rw[<-kZ i hi];exact h1,h2,h3,fun j sv hj=>?_⟩;obtain⟨c,h5,h6⟩:=hl.get j sv hj;obtain⟨u,h7,h8,h9⟩:=h4 j c h5;refine⟨u,h7,h8,?_⟩;rcases h6 with rfl|⟨rfl,h6⟩
   simp only[Den];exact Den.wG hb h6 (by rw[Q4 (σ:=id) (fun _=>rfl)];exact h9)
  refine⟨zw,hk,⟨fun j h hj=>?_,fun a b h h' n ha hb' hab=>?_⟩,H.fr,H.qN⟩
  .rw[Za]at hj;split at hj
   .rename_i e;subst e;injection hj with hj;subst hj
    exact⟨wA,fun n f=>(H.own.1 _ _ hO).2 n ((show wq M.η0 w (.loc _) (.box row) n from f).mono H.pre)⟩
   simp[wu]at hj
  .rw[Za]at ha hb';split at ha
   .split at hb'
    rename_i e1 e2;exact(hab (e1.trans e2.symm)).elim;simp[wu]at hb'
   simp[wu]at ha
 .have hb:dL Y M.η0 (fun i=>i) 0:=fun i x hi=>by omega
  exact Den.wG hb (XD 0 hr) (by rw[X9 _ hr];exact hd)
def aM:Nat->List SV
 |0=>[]
 |n+1=> .any::aM n
theorem Lp{Y η':Env}:∀{cs:List SV} {vs:List Value},w6 Y cs vs->w6 η' (aM cs.length) vs
 | [],vs,h=>by simpa[w6,aM]using h
 |c::cs,vs,h=>by
  simp only[w6,aM,List.length_cons]at h⊢;obtain⟨u,us,rfl,_,h⟩:=h;exact⟨u,us,rfl,by simp only[Den],Lp h⟩
theorem wh.gx(n:Nat){k:Nat}{r:SV}{cs vs:List SV}{Q:SV->w9->Nat->Prop}(hk:M.η0.length=k)(hr:r= .wM (.agg cs::vs))(hn:o6 cs n=true)(hv:YM vs=true)(hQ:Q (.wM (.agg (aM n)::vs)) [] k):wh M O nx r Q:=by
 have hn:cs.length=n:=by
  clear hr hQ
  induction n generalizing cs with
  |zero=>cases cs with
   |nil=>rfl
   |cons a l=>simp[o6]at hn
  |succ n ih=>cases cs with
   |nil=>simp[o6]at hn
   |cons a l=>simp only[o6]at hn;simp[ih hn]
 refine⟨fun Y w v H hd=>⟨.wM (.agg (aM n)::vs),[],k,M.η0,hQ,zw,⟨zw,hk,⟨fun i h hi=>by simp[wu]at hi,fun i j h h' n hi=>by simp[wu]at hi⟩,H.fr,H.qN⟩,?_⟩⟩;rw[hr]at hd;simp only[Den,w6]at hd⊢;obtain⟨us,h1,u,us',h2,⟨xs,h5,h6,h7⟩,h4⟩:=hd;refine⟨us,h1,u,us',h2,⟨xs,h5,by rw[<-hn];exact Lp h6,h7⟩,?_⟩;have hb:dL Y M.η0 (fun i=>i) 0:=fun i x hi=>by omega
 exact w6.wG hb (ZF 0 hv) (by rw[ZN _ hv];exact h4)
section
variable {m:Nat}{σ:Nat->Nat}{sv:SV}
theorem Lq(hs:ZV m sv=true):∀{row:List DC} {c:Nat},JM row=true->XC m (row.set c (.v sv))=true
 | [],_,_=>rfl
 |d::row,0,h=>by simp only[JM,zk]at h;simp only[List.set_cons_zero,XC,rS,hs,JT m h.2,zD]
 |d::row,c+1,h=>by simp only[JM,zk]at h;simp only[List.set_cons_succ,XC,Mi m h.1,Lq hs h.2,zD]
theorem Lr(hs:ZV m sv=true):∀{rs:List (List DC)} {r c:Nat},YU rs=true->YC m (q9 rs r c (.v sv))=true
 | [],r,_,_=>by cases r<;>rfl
 |row::rs,0,c,h=>by simp only[YU,zk]at h;simp only[q9,List.modify_zero_cons,YC,Lq hs h.1,Jp m h.2,zD]
 |row::rs,r+1,c,h=>by simp only[YU,zk]at h;simp only[q9,List.modify_succ_cons,YC,JT m h.1,vo];exact Lr hs h.2
theorem Lt:∀{row:List DC} {c:Nat},JM row=true->pE σ (row.set c (.v sv))=row.set c (.v (wR σ sv))
 | [],_,_=>rfl
 |d::row,0,h=>by simp only[JM,zk]at h;simp only[List.set_cons_zero,pE,eW,Uv σ h.2]
 |d::row,c+1,h=>by simp only[JM,zk]at h;simp only[List.set_cons_succ,pE,Mh σ h.1,Lt h.2]
theorem Lu:∀{rs:List (List DC)} {r c:Nat},YU rs=true->XL σ (q9 rs r c (.v sv))=q9 rs r c (.v (wR σ sv))
 | [],r,_,_=>by cases r<;>rfl
 |row::rs,0,c,h=>by simp only[YU,zk]at h;simp only[q9,List.modify_zero_cons,XL,Lt h.1,VH σ h.2]
 |row::rs,r+1,c,h=>by simp only[YU,zk]at h;simp only[q9,List.modify_succ_cons,XL,Uv σ h.1];exact ze (row:: ·) (Lu h.2)
theorem ZcU{mp:Bool}{es r c:Nat}{rs:List (List DC)}(h:YU rs=true)(hs:ZV m sv=true):Zi m (.deep mp es (q9 rs r c (.v sv)))=true:=Lr hs h
theorem Zhd{mp:Bool}{es r c:Nat}{rs:List (List DC)}(h:YU rs=true):Hp.deep mp es (q9 rs r c (.v (wR σ sv)))=wJ σ (.deep mp es (q9 rs r c (.v sv))):=by simp only[wJ,Lu h]
end
class PlF{V:Type}(f:V->List SV):Prop where
 h:∀x,YM (f x)=true
class Pl(rs:List (List SV)):Prop where
 h:Zp rs=true
class GO(rs:List (List DC)):Prop where
 h:YU rs=true
instance {V:Type}{f:V->List SV}[p:PlF f]{l:List V}:Pl (l.map f):=⟨ZH f p.h l⟩
instance :PlF bytesRow:=⟨fun _=>rfl⟩
theorem Ym{m i:Nat}{h:Hp}{O:w9}(h1:Nat.blt i m=true)(h2:Zi m h=true)(h3:Zj m O=true):Zj m ((i,h)::O)=true:=by simp only[Zj,h1,h2,h3,zD]
theorem GQ{k:IntKind}{a b:Int}(h:a=b):Hp.box [.int k a]=Hp.box [.int k b]:=by rw[h]
theorem GR{b:qP}{r es n n':Nat}{lim:Option Nat}(h:n=n'):Hp.box [.sl b r es n lim]=Hp.box [.sl b r es n' lim]:=by rw[h]
section
variable {m es:Nat}{σ Z:Nat->Nat}{rs:List (List SV)}{ds:List (List DC)}{mp:Bool}
theorem rq[p:Pl rs]:Zi m (.rows es rs)=true:=Yj m (h:= .rows es rs) p.h
theorem ru[p:Pl rs]:Zi m (.mp rs)=true:=Yj m (h:= .mp rs) p.h
theorem UE[p:GO ds]:Zi m (.deep mp es ds)=true:=Yj m (h:= .deep mp es ds) p.h
theorem UF{r c:Nat}{sv:SV}[p:GO ds](h:ZV m sv=true):Zi m (.deep mp es (q9 ds r c (.v sv)))=true:=ZcU p.h h
theorem Qa{r c:Nat}{sv rP:SV}[p:GO ds](h:rP=wR σ sv):Hp.deep mp es (q9 ds r c (.v rP))=wJ σ (.deep mp es (q9 ds r c (.v sv))):=h▸Zhd p.h
theorem dM[p:Pl rs]:wJ σ (.rows es rs)= .rows es rs:=Zu σ (h:= .rows es rs) p.h
theorem dN[p:Pl rs]:wJ σ (.mp rs)= .mp rs:=Zu σ (h:= .mp rs) p.h
theorem gZ[p:GO ds]:wJ σ (.deep mp es ds)= .deep mp es ds:=Zu σ (h:= .deep mp es ds) p.h
theorem tC[p:Pl rs]:wJ σ (.rows es rs)=wJ Z (.rows es rs):=dM.trans dM.symm
theorem tD[p:Pl rs]:wJ σ (.mp rs)=wJ Z (.mp rs):=dN.trans dN.symm
theorem Qb[p:GO ds]:wJ σ (.deep mp es ds)=wJ Z (.deep mp es ds):=gZ.trans gZ.symm
end
section
variable {M:Mx}{fr fr':Fr}{O O':w9}{nx:Nat}
theorem CALL.aA{f:FuncId}{args wX:List SV}{K:SV->w9->Nat->Prop}{k:Nat}{Oc Sc:w9}{Q:SV->w9->Nat->Prop}(L:List Nat)(sp:uX M.P M.C.T f k wX Oc Sc Q)
 (hK:∀r O' w8,Q r O' w8->K (wR (Zo L nx) r) (kJ (Zo L nx) O'++ZY ((Zd Oc).map (Zo L nx)) O) (nx+(w8-k)))
 (hL:L.length=k:=by exact rfl) (cZ:L.all (fun i=>Nat.blt i nx)=true:=by exact rfl) (ha:args=qg (Zo L nx) wX:=by exact rfl) (hb:ZO k wX=true:=by exact rfl)
 (cS:Zj k Oc=true:=by(repeat'(first|(refine Ym rfl ?_ ?_)|exact rq|exact ru|exact UE|exact UF rfl|rfl))) (nR:Zj k Sc=true:=by(repeat'(first|(refine Ym rfl ?_ ?_)|exact rq|exact ru|exact UE|exact UF rfl|rfl))) (hO:jr (Zo L nx) O Oc:=by(repeat'(first|exact trivial|(with_reducible rfl)|exact dM.symm|exact tC|exact dN.symm|exact tD|exact gZ.symm|exact Qb|exact Qa rfl|(exact Zl Pl.h (by simp[Yy,zi]<;>rfl))|exact rfl|((conv=>whnf);refine⟨?_,?_⟩)))) (hS:gh M.C (Zo L nx) O Sc:=by(repeat'(first|exact trivial|(with_reducible rfl)|exact dM.symm|exact tC|exact dN.symm|exact tD|exact gZ.symm|exact Qb|exact Qa rfl|(exact Zl Pl.h (by simp[Yy,zi]<;>rfl))|exact rfl|((conv=>whnf);refine⟨?_,?_⟩))))
 (hinj:(Zd Oc).all (fun j=>(Zd Oc).all fun j'=>!(Nat.beq (Zo L nx j) (Zo L nx j'))||Nat.beq j j')=true:=by exact rfl)
 (hd:(Zd Sc).all (fun j=>!((Zd Oc).any fun j'=>Nat.beq (Zo L nx j) (Zo L nx j')))=true:=by exact rfl):CALL M f args O nx K:=
 CALL.at L sp hL cZ ha hb cS nR hO hS hinj hd hK
theorem fK.aA{f:FuncId}{args wX:List SV}{KP K:SV->w9->Nat->Prop}{k:Nat}{Oc Sc:w9}{Q X:SV->w9->Nat->Prop}(L:List Nat)(sp:aH M.P M.C.T f k wX Oc Sc Q X)
 (hK:∀r O' w8,Q r O' w8->K (wR (Zo L nx) r) (kJ (Zo L nx) O'++ZY ((Zd Oc).map (Zo L nx)) O) (nx+(w8-k)))
 (hX:∀r O' w8,X r O' w8->KP (wR (Zo L nx) r) (kJ (Zo L nx) O'++ZY ((Zd Oc).map (Zo L nx)) O) (nx+(w8-k)))
 (hL:L.length=k:=by exact rfl) (cZ:L.all (fun i=>Nat.blt i nx)=true:=by exact rfl) (ha:args=qg (Zo L nx) wX:=by exact rfl) (hb:ZO k wX=true:=by exact rfl)
 (cS:Zj k Oc=true:=by(repeat'(first|(refine Ym rfl ?_ ?_)|exact rq|exact ru|exact UE|exact UF rfl|rfl))) (nR:Zj k Sc=true:=by(repeat'(first|(refine Ym rfl ?_ ?_)|exact rq|exact ru|exact UE|exact UF rfl|rfl))) (hO:jr (Zo L nx) O Oc:=by(repeat'(first|exact trivial|(with_reducible rfl)|exact dM.symm|exact tC|exact dN.symm|exact tD|exact gZ.symm|exact Qb|exact Qa rfl|(exact Zl Pl.h (by simp[Yy,zi]<;>rfl))|exact rfl|((conv=>whnf);refine⟨?_,?_⟩)))) (hS:gh M.C (Zo L nx) O Sc:=by(repeat'(first|exact trivial|(with_reducible rfl)|exact dM.symm|exact tC|exact dN.symm|exact tD|exact gZ.symm|exact Qb|exact Qa rfl|(exact Zl Pl.h (by simp[Yy,zi]<;>rfl))|exact rfl|((conv=>whnf);refine⟨?_,?_⟩))))
 (hinj:(Zd Oc).all (fun j=>(Zd Oc).all fun j'=>!(Nat.beq (Zo L nx j) (Zo L nx j'))||Nat.beq j j')=true:=by exact rfl)
 (hd:(Zd Sc).all (fun j=>!((Zd Oc).any fun j'=>Nat.beq (Zo L nx j) (Zo L nx j')))=true:=by exact rfl):fK M f args O nx KP K:=
 fK.at L sp hL cZ ha hb cS nR hO hS hinj hd hK hX
theorem wh.aA{k:Nat}{r:SV}{Q:SV->w9->Nat->Prop}(hk:M.η0.length=k)(Z:List Nat)(rc:SV)(Oc:w9)(hQ:Q rc Oc (k+Z.length))(hτ:Z.all (fun i=>Nat.blt i nx)=true:=by exact rfl)(hr:r=wR (YL k Z) rc:=by exact rfl)(hb:ZV (k+Z.length) rc=true:=by exact rfl)(cS:Zj (k+Z.length) Oc=true:=by(repeat'(first|(refine Ym rfl ?_ ?_)|exact rq|exact ru|exact UE|exact UF rfl|rfl)))
 (hO:jr (YL k Z) O Oc:=by(repeat'(first|exact trivial|(with_reducible rfl)|exact dM.symm|exact tC|exact dN.symm|exact tD|exact gZ.symm|exact Qb|exact Qa rfl|(exact Zl Pl.h (by simp[Yy,zi]<;>rfl))|exact rfl|((conv=>whnf);refine⟨?_,?_⟩)))) (hinj:(Zd Oc).all (fun j=>(Zd Oc).all fun j'=>!(Nat.beq (YL k Z j) (YL k Z j'))||Nat.beq j j')=true:=by exact rfl):wh M O nx r Q:=
 wh.at hk Z rc Oc hτ hr hb cS hO hinj hQ
theorem CALL.hA{f:FuncId}{args:List SV}{K:SV->w9->Nat->Prop}{k:Nat}{Oc Sc:w9}{Q:SV->w9->Nat->Prop}(sp:uX M.P M.C.T f k args Oc Sc Q)
 (hQ:∀r O' w8,Q r O' w8->w8=k/\ZV k r=true/\Zj k O'=true) (hK:∀r O',Q r O' k->K r (O'++ZY (Zd Oc) O) nx)
 (hk:Nat.ble k nx=true:=by exact rfl) (hb:ZO k args=true:=by exact rfl) (cS:Zj k Oc=true:=by(repeat'(first|(refine Ym rfl ?_ ?_)|exact rq|exact ru|exact UE|exact UF rfl|rfl))) (nR:Zj k Sc=true:=by(repeat'(first|(refine Ym rfl ?_ ?_)|exact rq|exact ru|exact UE|exact UF rfl|rfl))) (hO:dB O Oc:=by(repeat'(first|exact trivial|exact rfl|((conv=>whnf);refine⟨?_,?_⟩)))) (hS:cF M.C O Sc:=by(repeat'(first|exact trivial|exact rfl|((conv=>whnf);refine⟨?_,?_⟩))))
 (hd:(Zd Sc).all (fun j=>!((Zd Oc).any (Nat.beq j)))=true:=by exact rfl):CALL M f args O nx K:=CALL.here sp hk hb cS nR hO hS hd hQ hK
theorem w5.cA{k m:Nat}(hk:M.η0.length=k)(hkm:Nat.ble k m=true:=by exact rfl)(hmn:Nat.ble m nx=true:=by exact rfl)(Q5:UB m fr'=true:=by exact rfl)(Q6:Zj m O'=true:=by(repeat'(first|(refine Ym rfl ?_ ?_)|exact rq|exact ru|exact UE|exact UF rfl|rfl)))
 (hf:mS fr fr':=by(repeat'(first|(with_reducible rfl)|exact trivial|(exact Ya rfl (by first|omega|(simp(disch:=omega) only[qL,Z5,Zn]<;>omega)|(simp;done)|(simp<;>omega)))|(exact ze (SV.int _) (by first|omega|(simp(disch:=omega) only[qL,Z5,Zn]<;>omega)|(simp;done)|(simp<;>omega)))|(exact GQ (by first|omega|(simp(disch:=omega) only[qL,Z5,Zn]<;>omega)|(simp;done)|(simp<;>omega)))|(exact GR (by first|omega|(simp(disch:=omega) only[qL,Z5,Zn]<;>omega)|(simp;done)|(simp<;>omega)))|exact dM|exact dN|exact gZ|(with_reducible assumption)|(exact ze (Hp.rows _) (by simp[zi]<;>rfl))|((conv=>whnf);refine⟨?_,?_⟩)|(simp;done)|rfl))) (hO:GF O O':=by(repeat'(first|(with_reducible rfl)|exact trivial|(exact Ya rfl (by first|omega|(simp(disch:=omega) only[qL,Z5,Zn]<;>omega)|(simp;done)|(simp<;>omega)))|(exact ze (SV.int _) (by first|omega|(simp(disch:=omega) only[qL,Z5,Zn]<;>omega)|(simp;done)|(simp<;>omega)))|(exact GQ (by first|omega|(simp(disch:=omega) only[qL,Z5,Zn]<;>omega)|(simp;done)|(simp<;>omega)))|(exact GR (by first|omega|(simp(disch:=omega) only[qL,Z5,Zn]<;>omega)|(simp;done)|(simp<;>omega)))|exact dM|exact dN|exact gZ|(with_reducible assumption)|(exact ze (Hp.rows _) (by simp[zi]<;>rfl))|((conv=>whnf);refine⟨?_,?_⟩)|(simp;done)|rfl))) (hd:tu fr fr'=true:=by exact rfl) (hro:tv M.C.ro id m=true:=by exact rfl):w5 M fr O nx fr' O' m:=w5.qn hk hkm hmn Q5 Q6 hf hO hd hro
theorem w5.kA{k:Nat}(hk:M.η0.length=k)(Z:List Nat)(hτ:Z.all (fun i=>Nat.blt i nx)=true:=by exact rfl)
 (hn:(Zd O').all (fun j=>(Zd O').all fun j'=>!(Nat.beq (YL k Z j) (YL k Z j'))||Nat.beq j j')=true:=by exact rfl)
 (Q5:UB (k+Z.length) fr'=true:=by exact rfl) (Q6:Zj (k+Z.length) O'=true:=by(repeat'(first|(refine Ym rfl ?_ ?_)|exact rq|exact ru|exact UE|exact UF rfl|rfl))) (hf:mW (YL k Z) fr fr':=by(repeat'(first|(with_reducible rfl)|exact trivial|exact dM.symm|exact tC|exact dN.symm|exact tD|exact gZ.symm|exact Qb|exact Qa rfl|(exact Ya rfl (by first|omega|(simp(disch:=omega) only[qL,Z5,Zn]<;>omega)|(simp;done)|(simp<;>omega)))|(exact ze (SV.int _) (by first|omega|(simp(disch:=omega) only[qL,Z5,Zn]<;>omega)|(simp;done)|(simp<;>omega)))|(exact GQ (by first|omega|(simp(disch:=omega) only[qL,Z5,Zn]<;>omega)|(simp;done)|(simp<;>omega)))|(exact GR (by first|omega|(simp(disch:=omega) only[qL,Z5,Zn]<;>omega)|(simp;done)|(simp<;>omega)))|(with_reducible assumption)|(exact Zl Pl.h (by simp[Yy,zi]<;>rfl))|((conv=>whnf);refine⟨?_,?_⟩)|(simp only[wR,qo];done)|rfl))) (hO:GM (YL k Z) O O':=by(repeat'(first|(with_reducible rfl)|exact trivial|exact dM.symm|exact tC|exact dN.symm|exact tD|exact gZ.symm|exact Qb|exact Qa rfl|(exact Ya rfl (by first|omega|(simp(disch:=omega) only[qL,Z5,Zn]<;>omega)|(simp;done)|(simp<;>omega)))|(exact ze (SV.int _) (by first|omega|(simp(disch:=omega) only[qL,Z5,Zn]<;>omega)|(simp;done)|(simp<;>omega)))|(exact GQ (by first|omega|(simp(disch:=omega) only[qL,Z5,Zn]<;>omega)|(simp;done)|(simp<;>omega)))|(exact GR (by first|omega|(simp(disch:=omega) only[qL,Z5,Zn]<;>omega)|(simp;done)|(simp<;>omega)))|(with_reducible assumption)|(exact Zl Pl.h (by simp[Yy,zi]<;>rfl))|((conv=>whnf);refine⟨?_,?_⟩)|(simp only[wR,qo];done)|rfl))) (hd:tu fr fr'=true:=by exact rfl) (hro:tv M.C.ro (YL k Z) (k+Z.length)=true:=by exact rfl):w5 M fr O nx fr' O' (k+Z.length):=
 w5.wV hk Z hτ hn Q5 Q6 hf hO hd hro
end
theorem AU{P Q:Prop}(k:Q)(h:Q->P:=by first|(with_reducible exact IF.tt)|(with_reducible exact IF.ff)|(with_reducible exact GET.at rfl)|(with_reducible exact dI.at rfl)|((with_reducible refine fun k=>wm.mk ?_ k);first|with_reducible rfl|omega|(simp(disch:=omega) only[qL,Z5,Zn]<;>omega)|(intro h;(try simp(disch:=omega) only[GG,GH,qL,Z5,Zn,simprocAttr]at h);(first|omega|(simp(disch:=omega) only[qL,Z5,Zn]<;>omega)))|(exact Zm 256 rfl rfl (by simp) (by simp) (by omega))|(exact⟨by omega,GI (by omega)⟩)|(exact⟨by omega,by omega,GI (by omega)⟩)|(simp<;>omega))):P:=h k
theorem IW{J:Type}{b:Bool}{A B:J->Prop}{j:J}{p q:Prop}(x:p->A j)(y:q->B j)
 (hp:b=true->p:=by(intro h;first|(simp(disch:=omega) only[GG,GH,qL,Z5,Zn,simprocAttr]at h;exact h)|(exact(show(0:Nat)=1 by simp(disch:=omega) only[GG,GH,qL,Z5,Zn,simprocAttr]at h))|exact h))
 (hq:b=false->q:=by(intro h;first|(simp(disch:=omega) only[GG,GH,qL,Z5,Zn,simprocAttr]at h;exact h)|(exact(show(0:Nat)=1 by simp(disch:=omega) only[GG,GH,qL,Z5,Zn,simprocAttr]at h))|exact h)):IF b A B j:=⟨fun h=>x (hp h),fun h=>y (hq h)⟩
theorem Lv{b:qP}{r es len:Nat}{lim:Option Nat}(h:0<len):oJ (.sl b r es len lim):=by
 intro Y u u' h1 h2;simp only[Den]at h1 h2;rcases h1 with⟨_,_,h0⟩|⟨e,o,g1,rfl,g3,g4,g5⟩
 omega;rcases h2 with⟨_,_,h0⟩|⟨e',o',k1,rfl,k3,k4,k5⟩
 omega;rw[g1]at k1;injection k1 with k1;injection k1 with k1;subst k1;rw[g5 (.inl (by omega)),k5 (.inl (by omega))]
theorem AD{P Q:Prop}(k:Q)(h:Q->P:=by first|exact fun k=>wm.mk (oJ.of rfl) k|exact fun k=>wm.mk (Lv (by omega)) k):P:=h k
end Go.Sx
namespace Go.Our
open Go.Sx
structure jH{K:Type}(c:K->K->Int):Prop where
 nS:∀a b,c a b= -1\/c a b=0\/c a b=1
 anti:∀a b,c b a= -c a b
 zero:∀a b,c a b=0<->a=b
 trans:∀a b d,c a b<=0->c b d<=0->c a d<=0
def qF(a b:Int):Int:=if a<b then-1 else if a>b then 1 else 0
theorem cG:jH qF where
 nS a b:=by unfold qF;(repeat' split)<;>omega
 anti a b:=by unfold qF;(repeat' split)<;>omega
 zero a b:=by unfold qF;(repeat' split)<;>omega
 trans a b d:=by unfold qF;(repeat' split)<;>omega
open Lib (compareBytes)
theorem Lw:∀a b,compareBytes a b= -1\/compareBytes a b=0\/compareBytes a b=1
 | [],[]=>by simp[compareBytes]
 | [],_::_=>by simp[compareBytes]
 |_::_,[]=>by simp[compareBytes]
 |a::rY,b::bs=>by
  unfold compareBytes;split
  simp
  .split
   simp;exact Lw rY bs
theorem Lx:∀a b,compareBytes b a= -compareBytes a b
 | [],[]=>by simp[compareBytes]
 | [],_::_=>by simp[compareBytes]
 |_::_,[]=>by simp[compareBytes]
 |a::rY,b::bs=>by
  unfold compareBytes;simp only[vB];by_cases h:a.toNat<b.toNat
  .have:¬b.toNat<a.toNat:=by omega
   simp[h,this]
  .by_cases h':b.toNat<a.toNat
   simp[h,h'];simp only[h,h',v8];exact Lx rY bs
theorem Lz:∀a b,compareBytes a b=0<->a=b
 | [],[]=>by simp[compareBytes]
 | [],_::_=>by simp[compareBytes]
 |_::_,[]=>by simp[compareBytes]
 |a::rY,b::bs=>by
  unfold compareBytes;simp only[vB,yJ,<-uj];by_cases h:a.toNat<b.toNat
  simp[h];omega
  .by_cases h':b.toNat<a.toNat
   simp[h,h'];omega
   .have:a.toNat=b.toNat:=by omega
    simp only[this,uS,v8,xV];exact Lz rY bs
theorem LA:∀a b c,compareBytes a b<=0->compareBytes b c<=0->compareBytes a c<=0
 | [],_,[]=>by simp[compareBytes]
 | [],_,_::_=>by simp[compareBytes]
 |_::_,[],_=>by simp[compareBytes]
 |_::_,_::_,[]=>by simp[compareBytes]
 |a::rY,b::bs,c::cs=>by
  unfold compareBytes;simp only[vB];have ih:=LA rY bs cs
  (repeat' split)<;>first|omega|(intro x y;first|exact ih x y|omega)
def cmpL(a b:List UInt8):Int:=compareBytes a b
theorem jO:jH cmpL where
 nS a b:=Lw _ _
 anti a b:=Lx _ _
 zero a b:=Lz _ _
 trans a b d:=LA _ _ _
def J3{J Y:Type}(c:J->J->Int)(d:Y->Y->Int)(a b:J×Y):Int:=if c a.1 b.1≠0 then c a.1 b.1 else d a.2 b.2
theorem WM{J Y:Type}{c:J->J->Int}{d:Y->Y->Int}(hc:jH c)(hd:jH d):jH (J3 c d) where
 nS a b:=by unfold J3;split<;>first|exact hc.nS _ _|exact hd.nS _ _
 anti a b:=by
  unfold J3;rw[hc.anti a.1 b.1,hd.anti a.2 b.2];by_cases h:c a.1 b.1=0
  simp[h]
  .have:¬ -c a.1 b.1=0:=by omega
   simp[h,this]
 zero a b:=by
  unfold J3;by_cases h:c a.1 b.1=0
  .simp only[h,ne_eq,uD,v8];rw[hd.zero];have hf:=(hc.zero _ _).1 h;exact⟨fun hg=>Prod.ext hf hg,fun e=>by rw[e]⟩
  .simp only[ne_eq,h,xe,yR,false_iff];intro e;subst e;exact h ((hc.zero _ _).2 rfl)
 trans a b e:=by
  unfold J3;intro h1 h2;have r1:=hc.nS a.1 b.1;have r2:=hc.nS b.1 e.1;have t1:=hc.trans a.1 b.1 e.1;by_cases x:c a.1 b.1=0
  .have ex:=(hc.zero _ _).1 x;simp only[x,ne_eq,uD,v8]at h1;rw[ex];by_cases y:c b.1 e.1=0
   .simp only[y,ne_eq,uD,v8]at h2⊢;exact hd.trans _ _ _ h1 h2
   .simp only[ne_eq,y,xe,yR]at h2⊢;exact h2
  .simp only[ne_eq,x,xe,yR]at h1;by_cases y:c b.1 e.1=0
   .have ey:=(hc.zero _ _).1 y;rw[<-ey];simp only[ne_eq,x,xe,yR];exact h1
   .simp only[ne_eq,y,xe,yR]at h2;have hle:=t1 h1 h2
    have hne:c a.1 e.1≠0:=by
     intro hz;have e1:=(hc.zero _ _).1 hz;rw[<-e1]at h2 y;have:=hc.anti a.1 b.1;omega
    simp only[ne_eq,hne,xe,yR];exact hle
theorem LC{K J:Type}{c:J->J->Int}(hc:jH c)(f:K->J)(hf:∀a b,f a=f b->a=b):jH (fun a b=>c (f a) (f b)) where
 nS a b:=hc.nS _ _
 anti a b:=hc.anti _ _
 zero a b:=by rw[hc.zero];exact⟨hf a b,fun e=>by rw[e]⟩
 trans a b d:=hc.trans _ _ _
theorem Wd:∀a b:List UInt8,Op.bytesLess a b=decide (Lib.compareBytes a b<0)
 | [],[]=>by simp[Op.bytesLess,Lib.compareBytes]
 | [],_::_=>by simp[Op.bytesLess,Lib.compareBytes]
 |_::_,[]=>by simp[Op.bytesLess,Lib.compareBytes]
 |a::rY,b::bs=>by
  unfold Op.bytesLess Lib.compareBytes;rw[Wd rY bs];simp only[vB]
  have B9:(a==b)=decide (a.toNat=b.toNat):=by
   rw[zZ];simp[uj]
  rw[B9];by_cases h:a.toNat<b.toNat
  simp[h]
  .by_cases h':b.toNat<a.toNat
   .have:¬a.toNat=b.toNat:=by omega
    simp[h,h',this]
   .have:a.toNat=b.toNat:=by omega
    simp[this]
theorem LD(a b:List UInt8):QZ a b=decide (cmpL a b<0):=Wd a b
def Tm.key(x:Tm):Int×List UInt8×List UInt8×List UInt8:=(x.k,x.t,x.y,x.l)
def YI(a b:Tm):Int:=J3 qF (J3 cmpL (J3 cmpL cmpL)) a.key b.key
theorem oK:jH YI:=LC (WM cG (WM jO (WM jO jO))) Tm.key (fun a b h=>by
 cases a;cases b;simp[Tm.key]at h;simp[h])
def Qd.key(q:Qd):Tm×Tm×Tm×Tm:=(q.g,q.s,q.p,q.o)
def ZM(a b:Qd):Int:=J3 YI (J3 YI (J3 YI YI)) a.key b.key
theorem jP:jH ZM:=LC (WM oK (WM oK (WM oK oK))) Qd.key (fun a b h=>by
 cases a;cases b;simp[Qd.key]at h;simp[h])
def pL:List Int->Int
 | []=>0
 |x::l=>if x≠0 then x else pL l
theorem LF(a b:Tm):pL [qF a.k b.k,cmpL a.t b.t,cmpL a.y b.y,cmpL a.l b.l]=YI a b:=by
 simp only[pL,YI,J3,Tm.key]
 (repeat' split)<;>simp_all
theorem LG(a b:Qd):pL [YI a.g b.g,YI a.s b.s,YI a.p b.p,YI a.o b.o]=ZM a b:=by
 simp only[pL,ZM,J3,Qd.key]
 (repeat' split)<;>simp_all
abbrev Qd.row(q:Qd):List SV:=[.int .i64 q.s.k, .str q.s.t, .str q.s.y, .str q.s.l, .int .i64 q.p.k, .str q.p.t, .str q.p.y, .str q.p.l, .int .i64 q.o.k, .str q.o.t, .str q.o.y, .str q.o.l, .int .i64 q.g.k, .str q.g.t, .str q.g.y, .str q.g.l]
def Z4(q:Qd):List SV:=q.row
def ZD(x:Tm):List SV:=[.int .i64 x.k, .str x.t, .str x.y, .str x.l]
theorem Zc(l:List Tm):Zp (l.map ZD)=true:=ZH _ (fun _=>rfl) l
instance :PlF ZD:=⟨fun _=>rfl⟩
theorem Tm.ext'{a b:Tm}(h:ZD a=ZD b):a=b:=by
 obtain⟨_,_,_,_⟩:=a;obtain⟨_,_,_,_⟩:=b;simp only[ZD,yJ,SV.int.injEq,SV.str.injEq,xV,xo]at h
 simp_all
def ZmH:Qd:=⟨YN,YN,YN,YN⟩
theorem Zy(l:List Qd):Zp (l.map Z4)=true:=ZH _ (fun _=>rfl) l
instance :PlF Z4:=⟨fun _=>rfl⟩
theorem ZeT{K:Type}(f:K->List SV)(l z:List K):(((l++z).map f).drop 0).take l.length=l.map f:=by
 rw[yD,yj,xk (by simp),zi (by simp)]
theorem LH{K:Type}(f:K->List SV)(l:List K)(i:Nat)(x:K):(l.map f).set i (f x)=(l.set i x).map f:=by rw[xQ]
theorem Vb{K:Type}{f:K->List SV}{l:List K}{i j:Nat}(h:i<l.length)(hj:j=i):(l.map f)[j]?=some (f l[i]):=by
 subst hj;rw[z6,z1 h];rfl
theorem Qd.ext'{a b:Qd}(h:Z4 a=Z4 b):a=b:=by
 obtain⟨⟨_,_,_,_⟩,⟨_,_,_,_⟩,⟨_,_,_,_⟩,⟨_,_,_,_⟩⟩:=a;obtain⟨⟨_,_,_,_⟩,⟨_,_,_,_⟩,⟨_,_,_,_⟩,⟨_,_,_,_⟩⟩:=b;simp only[Z4,Qd.row,yJ,SV.int.injEq,SV.str.injEq,xV,xo]at h
 simp_all
def Zw:List UInt8->List (List UInt8)
 | []=>[[]]
 |c::t=>if c=45 then []::Zw t else match Zw t with
  |h::r=>(c::h)::r
  | []=>[[c]]
theorem Ea:∀s,Zw s≠ []
 | []=>by simp[Zw]
 |c::t=>by
  unfold Zw;split
  simp;split<;>simp
theorem Jl:∀s:List UInt8,(Zw s).length=s.count 45+1
 | []=>rfl
 |c::t=>by
  have ih:=Jl t;unfold Zw;split
  rename_i h;subst h;simp[ih]
  .rename_i h;split
   .rename_i h' r e;rw[e]at ih;simp at ih⊢;rw[List.count_cons_of_ne (by simpa using h)];omega
   rename_i e;exact(Ea t e).elim
theorem Ra:∀{s:List UInt8},Lib.indexByte s 45= -1->Zw s=[s]
 | [],_=>rfl
 |c::t,h=>by
  unfold Lib.indexByte at h;by_cases hc:c=45
  subst hc;simp at h
  .have hge:=Lib.indexByte_ge t 45
   have:Lib.indexByte t 45= -1:=by
    simp[hc]at h;apply xY;intro hn;have:=h hn;omega
   unfold Zw;rw[z7 hc,Ra this]
theorem Rb:∀{s:List UInt8} {m:Nat},Lib.indexByte s 45=m->m<s.length/\Zw s=s.take m::Zw (s.drop (m+1))
 | [],m,h=>by unfold Lib.indexByte at h;omega
 |c::t,m,h=>by
  unfold Lib.indexByte at h;by_cases hc:c=45
  .subst hc;simp at h;obtain rfl:m=0:=by omega
   simp[Zw]
  .have hge:=Lib.indexByte_ge t 45;simp[hc]at h;split at h
   omega
   .obtain⟨k,rfl⟩:∃k,m=k+1:=⟨m-1,by omega⟩;have ih:=Rb (s:=t) (m:=k) (by omega);refine⟨by simp;omega,?_⟩;conv=>lhs;unfold Zw
    rw[z7 hc,ih.2];simp only[List.take_succ_cons,vO]
theorem Eb(s:List UInt8):(Zw s).length<=s.length+1:=by
 rw[Jl];have:=List.count_le_length (a:=(45:UInt8)) (l:=s);omega
def Ze(s:List UInt8):List SV:=[.str s]
theorem Yn(l:List (List UInt8)):Zp (l.map Ze)=true:=ZH _ (fun _=>rfl) l
instance :PlF Ze:=⟨fun _=>rfl⟩
def l5(d:List (List UInt8))(k:Nat):List (List SV):=d.map Ze++List.replicate k (Ze [])
theorem Rc(d:List (List UInt8))(k:Nat):Zp (l5 d k)=true:=by
 unfold l5;refine VX (Yn d) ?_
 induction k with
 |zero=>rfl
 |succ k ih=>rw[List.replicate_succ];simp only[Zp,ih];rfl
theorem Re{d:List (List UInt8)}{k i:Nat}(h:i=d.length)(hk:0<k):(l5 d k)[i]?=some (Ze []):=by
 subst h;unfold l5;rw[zx (by simp)];simp[vW,hk]
theorem Rf{d:List (List UInt8)}{k i:Nat}{p:List UInt8}(h:i=d.length)(hk:0<k):(l5 d k).set i [.str p]=l5 (d++ [p]) (k-1):=by
 subst h;obtain⟨j,rfl⟩:∃j,k=j+1:=⟨k-1,by omega⟩;unfold l5;rw[xh _ _ (by simp)];simp[List.replicate_succ,Ze]
def Xp(s:List UInt8):Bool:=ZI s 1 1 false&&!Y1 s
def ZW(p:List UInt8->Bool):List (List UInt8)->Nat
 | []=>0
 |s::l=>if p s=true then ZW p l+1 else 0
theorem U2(p:List UInt8->Bool):∀l,ZW p l<=l.length
 | []=>by simp[ZW]
 |s::l=>by
  have:=U2 p l;unfold ZW;split<;>simp<;>omega
abbrev YK(least:Int):List UInt8->Bool:=fun s=>ZI s least 8 false
def e7:Nat->List (List UInt8)->List (List UInt8)
 |0,l=>l
 |_+1,[]=>[]
 |n+1,s::l=>if ZI s 3 3 true=true then e7 n l else s::l
def JQ:List (List UInt8)->Option (List (List UInt8))
 | []=>none
 |s::l=>if ZI s 2 8 true=true then(if 3<s.length then some l else some (e7 3 l))else none
def Ja(p:List UInt8->Bool):List (List UInt8)->List (List UInt8)
 | []=>[]
 |s::l=>if p s=true then l else s::l
def YO(seen:List (List UInt8)):List (List UInt8)->Option (List (List UInt8)×List (List UInt8))
 | []=>some ([],seen)
 |s::l=>if Jr s=true then(if Z9 s∈seen then none else YO (seen++ [Z9 s]) l)else some (s::l,seen)
def Y2(seen:List (List UInt8)):List (List UInt8)->Option (List (List UInt8))
 | []=>some []
 |s::l=>if Xp s=true then
   (if ZW (YK 2) l=0\/Z9 s∈seen then none else Y2 (seen++ [Z9 s]) (l.drop (ZW (YK 2) l)))
   else some (s::l)
termination_by l=>l.length
decreasing_by simp;omega
def Xq(l:List (List UInt8)):Option (List (List UInt8)):=
 match YO [] (Ja Xd (Ja (fun s=>ZI s 4 4 true) l))with
 |none=>none
 |some (l,seen)=>Y2 seen l
def Ki(p:List UInt8->Bool):List (List UInt8)->Bool
 | []=>false
 |s::_=>p s
def U3:List (List UInt8)->Bool
 | []=>true
 |s::l=>if Y1 s=true then decide (ZW (YK 1) l≠0/\ZW (YK 1) l=l.length)else false
def qB(l:List (List UInt8)):Bool:=
 if Ki Y1 l=true then U3 l else
 match JQ l with
 |none=>false
 |some l=>match Xq l with
  |none=>false
  |some l=>U3 l
theorem Bt:∀s:List UInt8,((Zw s).map List.length).sum+(Zw s).length=s.length+1
 | []=>rfl
 |c::t=>by
  have ih:=Bt t;have hne:=Ea t;unfold Zw;split
  simp only[zI,List.sum_cons,List.length_cons,List.length_nil];omega
  .split
   .rename_i h r e;rw[e]at ih;simp only[zI,List.sum_cons,List.length_cons]at ih⊢;omega
   rename_i e;exact(hne e).elim
theorem Rg:∀(u:List UInt8) (n:Nat),(∀c∈u.take n,c≠45)->u[n]?=some 45->Zw u=u.take n::Zw (u.drop (n+1))
 | [],n,_,h=>by simp at h
 |c::t,0,_,h=>by
  have h:c=45:=by simpa using h
  subst h;conv=>lhs;unfold Zw
  rw[zh rfl];rfl
 |c::t,n+1,h,h2=>by
  have hc:c≠45:=h c (by simp);have ih:=Rg t n (fun d hd=>h d (by simp[hd])) (by simpa using h2);conv=>lhs;unfold Zw
  rw[z7 hc,ih];rfl
theorem Rh:∀(u:List UInt8),(∀c∈u,c≠45)->Zw u=[u]
 | [],_=>rfl
 |c::t,h=>by
  have hc:c≠45:=h c (by simp);have ih:=Rh t (fun d hd=>h d (by simp[hd]));unfold Zw;rw[z7 hc,ih]
theorem Zd4:JU true=Vf:=by funext c;simp[JU]
def nu(least most:Int)(digits:Bool)(s:List UInt8):Bool:=decide (least<=s.length/\(s.length:Int)<=most)&& (if digits=true then jb XN s 0 else jb Vf s 0)
theorem J5(least most:Int)(s:List UInt8):nu least most false s=ZI s least most true:=by
 unfold nu ZI;rw[Zd4,Bool.and_comm];rfl
theorem Zd5{s:List UInt8}(h:s.length=3):jb XN s 0=(XN (Z1 s 0)&&XN (Z1 s 1)&&XN (Z1 s 2)):=by
 rw[JP (by omega),JP (by omega),JP (by omega),WS (by omega),zG,vU];rfl
theorem Jm(s:List UInt8):Xd s=(nu 2 2 false s||nu 3 3 true s):=by
 unfold Xd;rw[J5];congr 1;unfold nu;by_cases h:s.length=3
 rw[zh rfl,Zd5 h];simp[h,vU]
 .have:decide ((3:Int)<=s.length/\(s.length:Int)<=3)=false:=ye (by omega);rw[this];simp[h]
theorem Bu(s:List UInt8):ZI s 2 8 true=(nu 2 3 false s||nu 4 8 false s):=by
 rw[J5,J5];unfold ZI;cases jb (JU true) s 0
 simp
 .simp only[vo];rw[zZ];simp;omega
theorem YX(s:List UInt8):Y1 s=(Z9 s==[120]):=by
 unfold Y1 Z9;rcases s with _|⟨a,_|⟨b,t⟩⟩
 rfl
 .rw[zZ];simp only[yI,x5,zI,yH,yJ,xo];unfold de;constructor
  rintro(rfl|rfl)<;>rfl
  .intro h;split at h
   .rename_i h1;right
    have h2:=ze UInt8.toNat h;rw[xG (by show a.toNat+32<256;omega)]at h2;have:a.toNat=88:=by simpa using h2
    exact uj.1 (by simpa using this)
   exact .inl h
 simp
def Yo:List UInt8:=[104,116,116,112,58,47,47,119,119,119,46,119,51,46,111,114,103,47,49,57,57,57,47,48,50,47,50,50,45,114,100,102,45,115,121,110,116,97,120,45,110,115,35,108,97,110,103,83,116,114,105,110,103]
def dP(t y l:List UInt8):Int:=
 if 65536<t.length then 2 else if 0<=fD t 0 then 40 else if fZ y≠0 then fZ y else
 if l≠ []/\65536<l.length then 2 else if l≠ []/\(¬qB (Zw l)=true\/Z9 l≠l)then 61 else
 if(l≠ []/\¬y=Yo)\/(l=[]/\y=Yo)then 71 else 0
def wH(x:Tm):Int:=
 if x.k=1\/x.k=2 then(if x.y≠ []\/x.l≠ []then 70 else if x.k=1 then fZ x.t else if 65536<x.t.length then 2 else UT x.t)
 else if x.k=3 then dP x.t x.y x.l else 70
def Xv(q:Qd):Int:=
 if ¬(q.s.k=1\/q.s.k=2)then 70 else if wH q.s≠0 then wH q.s else
 if ¬q.p.k=1 then 70 else if wH q.p≠0 then wH q.p else
 if wH q.o≠0 then wH q.o else
 if q.g=YN then 0 else if ¬(q.g.k=1\/q.g.k=2)then 70 else wH q.g
theorem WV{x:Tm}(h:wH x=0):x.k=1\/x.k=2\/x.k=3:=by
 unfold wH at h;split at h
 omega
 .split at h
  omega;omega
theorem Zaq{x:Tm}(h:¬(x.k=1\/x.k=2\/x.k=3)):wH x=70:=by
 unfold wH;rw[z7 (by omega),z7 (by omega)]
theorem Zdb{c:UInt8}(h:65<=c.toNat/\c.toNat<=90):de c≠c:=by
 unfold de;rw[zh h];intro he;have:=ze UInt8.toNat he;rw[xG (by show c.toNat+32<256;omega)]at this;omega
theorem Rm{s:List UInt8}{i:Nat}(h:i<s.length):(Z9 s)[i]?=some (de s[i]):=by
 unfold Z9;rw[z6,z1 h];rfl
theorem Zho{s:List UInt8}{i:Nat}(h:i<s.length)(hu:65<=Z1 s i/\Z1 s i<=90):Z9 s≠s:=by
 intro he;have h1:=Rm h;rw[he,z1 h]at h1;have hb:Z1 s i=(s[i].toNat:Int):=by unfold Z1;rw[Int.toNat_natCast,List.getD,z1 h];rfl
 exact Zdb (by omega) (um h1).symm
theorem Zdc{s:List UInt8}(hu:∀i:Nat,i<s.length->¬(65<=Z1 s i/\Z1 s i<=90)):Z9 s=s:=by
 apply yx;intro i;by_cases h:i<s.length
 .rw[Rm h,z1 h];have hb:Z1 s i=(s[i].toNat:Int):=by unfold Z1;rw[Int.toNat_natCast,List.getD,z1 h];rfl
  have:=hu i h;rw[Br (by omega)]
 rw[zS (by unfold Z9;simp;omega),zS (by omega)]
def BF:List UInt8:=[104,116,116,112,58,47,47,119,119,119,46,119,51,46,111,114,103,47,50,48,48,49,47,88,77,76,83,99,104,101,109,97,35,115,116,114,105,110,103]
def bW(s:List UInt8):List UInt8:=[60]++aP 2 s++ [62]
def Vj(x:Tm):List UInt8:=
 if wH x≠0 then []else if x.k=1 then bW x.t else if x.k=2 then [95,58]++x.t else
 [34]++aP 1 x.t++ [34]++(if x.l≠ []then [64]++x.l else if x.y≠BF then [94,94]++bW x.y else [])
theorem Ed{s:List UInt8}(h:fZ s=0):s.length<=65536/\fD s 0<0:=by
 unfold fZ at h;split at h
 omega
 .rename_i h1;unfold dO at h1
  (repeat' split at h1)<;>simp at h1<;>omega
theorem J6(way:Int)(s:List UInt8):(aP way s).length<=6*s.length:=by
 unfold aP;split
 simp;have:=Zar way s 0;omega
theorem BG{x:Tm}(h:wH x=0):x.t.length<=65536/\(x.k≠2->fD x.t 0<0)/\(x.k=3->fZ x.y=0/\x.l.length<=65536):=by
 unfold wH at h;split at h
 .split at h
  omega
  .split at h
   .obtain⟨h1,h2⟩:=Ed h;exact⟨h1,fun _=>h2,fun h3=>by omega⟩
   .split at h
    omega;exact⟨by omega,fun h3=>by omega,fun h3=>by omega⟩
 .split at h
  .unfold dP at h;split at h
   omega;split at h
   omega;split at h
   rename_i h1;exact absurd h h1;rename_i h1 h2 h3;refine⟨by omega,fun _=>by omega,fun _=>⟨by simpa using h3,?_⟩⟩;by_cases hl:x.l=[]
   rw[hl];simp
   .split at h
    omega
    .rename_i h4;have:¬65536<x.l.length:=fun h5=>h4 ⟨hl,h5⟩;omega
  omega
end Go.Our
set_option linter.unusedSectionVars false
namespace Go.Our
section
variable {K:Type}{c:K->K->Int}
theorem jH.lt_trans(h:jH c){x y z:K}(h1:c x y<0)(h2:c y z<=0):c x z<0:=by
 have h3:=h.trans x y z (by omega) h2;rcases vS h3 with h4|h4
 exact h4
 .have e:=(h.zero x z).1 h4;subst e;have:=h.anti x y;omega
theorem jH.tF(h:jH c){x y z:K}(h1:c x y<=0)(h2:c y z<0):c x z<0:=by
 have h3:=h.trans x y z h1 (by omega);rcases vS h3 with h4|h4
 exact h4
 .have e:=(h.zero x z).1 h4;subst e;have:=h.anti x y;omega
theorem jH.self(h:jH c)(x:K):c x x=0:=(h.zero x x).2 rfl
theorem jH.ne(h:jH c){x y:K}(hl:c x y<0):x≠y:=fun e=>by subst e;have:=h.self x;omega
theorem jH.gt(h:jH c){x y:K}(hl:¬c x y<=0):c y x<0:=by have:=h.anti x y;omega
def kC(c:K->K->Int)(l:List K):Prop:=l.Pairwise fun a b=>c a b<0
theorem Rv(h:jH c):∀{l m:List K},kC c l->kC c m->(∀x,x∈l<->x∈m)->l=m
 | [],[],_,_,_=>rfl
 | [],y::m,_,_,he=>by have:=(he y).2 (by simp);simp at this
 |x::l,[],_,_,he=>by have:=(he x).1 (by simp);simp at this
 |x::l,y::m,hl,hm,he=>by
  have hl:=yq.1 hl;have hm:=yq.1 hm
  have hxy:x=y:=by
   rcases zK.1 ((he x).1 (by simp))with e|hx
   exact e
   .rcases zK.1 ((he y).2 (by simp))with e|hy
    exact e.symm
    .have h1:=hm.1 x hx;have h2:=hl.1 y hy;have:=h.anti x y;omega
  subst hxy;congr 1;refine Rv h hl.2 hm.2 fun z=>⟨fun hz=>?_,fun hz=>?_⟩
  .rcases zK.1 ((he z).1 (by simp[hz]))with e|h1
   subst e;exact(h.ne (hl.1 _ hz) rfl).elim;exact h1
  .rcases zK.1 ((he z).2 (by simp[hz]))with e|h1
   subst e;exact(h.ne (hm.1 _ hz) rfl).elim;exact h1
end
section
variable {K:Type}[DecidableEq K]{c:K->K->Int}
def Z6:List K->List K
 | []=>[]
 | [a]=>[a]
 |a::b::l=>if a=b then Z6 (b::l)else a::Z6 (b::l)
theorem UG:∀(l:List K) (x:K),x∈Z6 l<->x∈l
 | [],x=>by simp[Z6]
 | [a],x=>by simp[Z6]
 |a::b::l,x=>by
  have ih:=UG (b::l) x;unfold Z6;split
  rename_i e;subst e;rw[ih];simp;rw[zK,ih];simp[zK]
def kK(c:K->K->Int)(x y:K):Bool:=!(decide (c y x<0))
theorem Wj(h:jH c){x y:K}:kK c x y=true<->c x y<=0:=by
 have:=h.anti x y;unfold kK;simp only[Bool.not_eq_true',ym];omega
theorem Wk(h:jH c):∀(l:List K),l.Pairwise (fun a b=>c a b<=0)->kC c (Z6 l)
 | [],_=>List.Pairwise.nil
 | [a],_=>by simp[Z6,kC]
 |a::b::l,hp=>by
  have hp':=yq.1 hp;have ih:=Wk h (b::l) hp'.2;unfold Z6;split
  exact ih
  .rename_i hne;refine yq.2 ⟨fun x hx=>?_,ih⟩;rw[UG]at hx
   have hab:c a b<0:=by
    have h1:=hp'.1 b (by simp);have h2:c a b≠0:=fun e=>hne ((h.zero a b).1 e);omega
   rcases zK.1 hx with rfl|hx
   exact hab;exact h.lt_trans hab ((yq.1 hp'.2).1 x hx)
def qI(c:K->K->Int)(l:List K):List K:=Z6 (l.mergeSort (kK c))
theorem X4(l:List K)(x:K):x∈qI c l<->x∈l:=by
 unfold qI;rw[UG];exact uB
theorem YY(h:jH c)(l:List K):kC c (qI c l):=by
 refine Wk h _ ?_
 have:=uM (le:=kK c) (fun a b d h1 h2=>by rw[Wj h]at*;exact h.trans a b d h1 h2) (fun a b=>by
  have:=h.anti a b
  rw[yI,Wj h,Wj h];omega) l
 exact this.imp fun h1=>(Wj h).1 h1
theorem BH(h:jH c){l m:List K}(hm:kC c m)(he:∀x,x∈m<->x∈l):m=qI c l:=Rv h hm (YY h l) fun x=>(he x).trans (X4 l x).symm
theorem BI:∀(l:List K),(Z6 l).length<=l.length
 | []=>by simp[Z6]
 | [a]=>by simp[Z6]
 |a::b::l=>by
  have ih:=BI (b::l);unfold Z6;split
  simp only[List.length_cons]at ih⊢;omega;simp only[List.length_cons]at ih⊢;omega
theorem Kk(l:List K):(qI c l).length<=l.length:=by
 have:=BI (l.mergeSort (kK c));rw[yw]at this;exact this
def Vk(c:K->K->Int)(out:List K)(q:K):List K:=match out.getLast? with
 |none=>[q]
 |some z=>if c z q<0 then out++ [q]else out
def Yp(c:K->K->Int)(out:List K):List K->List K->List K
 | [],[]=>out
 |x::a,[]=>Yp c (Vk c out x) a []
 | [],y::b=>Yp c (Vk c out y) [] b
 |x::a,y::b=>if c x y<=0 then Yp c (Vk c out x) a (y::b)else Yp c (Vk c out y) (x::a) b
termination_by a b=>a.length+b.length
theorem JF(h:jH c){out:List K}{q:K}(ho:kC c out)(hq:∀x∈out,c x q<=0):kC c (Vk c out q)/\∀x,x∈Vk c out q<->x∈out\/x=q:=by
 unfold Vk;cases hg:out.getLast? with
 |none=>
  have:out=[]:=List.getLast?_eq_none_iff.1 hg;subst this;exact⟨by simp[kC],by simp⟩
 |some z=>
  obtain⟨pre,rfl⟩:=List.getLast?_eq_some_iff.1 hg;simp only;have ho':=List.pairwise_append.1 ho;split
  .rename_i hz;refine⟨List.pairwise_append.2 ⟨ho,List.pairwise_singleton ..,fun x hx y hy=>?_⟩,fun x=>by simp only[zW,zL]⟩;have hy:=zL.1 hy;subst hy;rcases zW.1 hx with hx|hx
   exact h.lt_trans (ho'.2.2 x hx z (by simp)) (by omega);have:=zL.1 hx;subst this;exact hz
  .rename_i hz;have he:z=q:=(h.zero z q).1 (by have:=hq z (by simp);omega);subst he;exact⟨ho,fun x=>by simp only[zW,zL];grind⟩
theorem Vl(h:jH c):∀(n:Nat) (out a b:List K),a.length+b.length=n->kC c out->kC c a->kC c b->(∀x∈out,∀y,y∈a\/y∈b->c x y<=0)->kC c (Yp c out a b)/\∀x,x∈Yp c out a b<->x∈out\/x∈a\/x∈b
 |n,out,[],[],hn,ho,ha,hb,hh=>by unfold Yp;exact⟨ho,by simp⟩
 |0,out,x::a,b,hn,_,_,_,_=>by simp at hn
 |0,out,[],y::b,hn,_,_,_,_=>by simp at hn
 |n+1,out,x::a,[],hn,ho,ha,hb,hh=>by
  have aQ:=yq.1 ha;obtain⟨h1,h2⟩:=JF h ho (q:=x) fun z hz=>hh z hz x (by simp)
  obtain⟨h3,h4⟩:=Vl h n (Vk c out x) a [] (by simp at hn⊢;omega) h1 aQ.2 hb (fun z hz y hy=>by
   rcases(h2 z).1 hz with hz|rfl
   exact hh z hz y (by simpa using Or.inr (by simpa using hy))
   .have:y∈a:=by simpa using hy
    have:=aQ.1 y this;omega)
  unfold Yp;refine⟨h3,fun z=>?_⟩;rw[h4,h2];simp only[zK,xA,uw]
  grind
 |n+1,out,[],y::b,hn,ho,ha,hb,hh=>by
  have hb':=yq.1 hb;obtain⟨h1,h2⟩:=JF h ho (q:=y) fun z hz=>hh z hz y (by simp)
  obtain⟨h3,h4⟩:=Vl h n (Vk c out y) [] b (by simp at hn⊢;omega) h1 ha hb'.2 (fun z hz w hw=>by
   have hw:w∈b:=by simpa using hw
   rcases(h2 z).1 hz with hz|rfl
   exact hh z hz w (by simp[hw])
   have:=hb'.1 w hw;omega)
  unfold Yp;refine⟨h3,fun z=>?_⟩;rw[h4,h2];simp only[zK,xA,false_or]
  grind
 |n+1,out,x::a,y::b,hn,ho,ha,hb,hh=>by
  have aQ:=yq.1 ha;have hb':=yq.1 hb;unfold Yp;split
  .rename_i hxy;obtain⟨h1,h2⟩:=JF h ho (q:=x) fun z hz=>hh z hz x (by simp)
   obtain⟨h3,h4⟩:=Vl h n (Vk c out x) a (y::b) (by simp at hn⊢;omega) h1 aQ.2 hb (fun z hz w hw=>by
    rcases(h2 z).1 hz with hz|rfl
    exact hh z hz w (by rcases hw with hw|hw<;>simp[hw]<;>simp at hw<;>simp[hw])
    .rcases hw with hw|hw
     have:=aQ.1 w hw;omega
     .rcases zK.1 hw with rfl|hw
      exact hxy
      exact h.trans _ _ _ hxy (by have:=hb'.1 w hw;omega))
   refine⟨h3,fun z=>?_⟩;rw[h4,h2];simp only[zK]
   grind
  .rename_i hxy;have F0:=h.gt hxy;obtain⟨h1,h2⟩:=JF h ho (q:=y) fun z hz=>hh z hz y (by simp)
   obtain⟨h3,h4⟩:=Vl h n (Vk c out y) (x::a) b (by simp at hn⊢;omega) h1 ha hb'.2 (fun z hz w hw=>by
    rcases(h2 z).1 hz with hz|rfl
    exact hh z hz w (by rcases hw with hw|hw<;>simp[hw]<;>simp at hw<;>simp[hw])
    .rcases hw with hw|hw
     .rcases zK.1 hw with rfl|hw
      omega;exact h.trans _ x _ (by omega) (by have:=aQ.1 w hw;omega)
     have:=hb'.1 w hw;omega)
   refine⟨h3,fun z=>?_⟩;rw[h4,h2];simp only[zK]
   grind
end
end Go.Our
namespace Go.Our
section
variable {K:Type}{c:K->K->Int}
theorem Rw:kC c ([]:List K):=List.Pairwise.nil
def wanted(f b s p q:Prop):Prop:=(f/\p/\¬q)\/(b/\p/\q)\/(s/\¬p/\q)
end
section
variable {K:Type}[DecidableEq K]{c:K->K->Int}
theorem Rx(h:jH c){xs ys l:List K}(hx:kC c xs)(hy:kC c ys)(hl:∀z,z∈l<->z∈xs\/z∈ys):Yp c [] xs ys=qI c l:=by
 obtain⟨h1,h2⟩:=Vl h _ [] xs ys rfl Rw hx hy (by simp);exact BH h h1 fun z=>by rw[h2,hl];simp
def Wl(c:K->K->Int)(l:List K):List K:=if l.length<2 then l else Yp c [] (Wl c (l.take (l.length/2))) (Wl c (l.drop (l.length/2)))
termination_by l.length
decreasing_by
 simp only[zu];omega;simp only[zF];omega
theorem Ee(h:jH c):∀(n:Nat) (l:List K),l.length<=n->Wl c l=qI c l
 |0,l,hn=>by
  have:l=[]:=zJ.1 (by omega);subst this;unfold Wl;simp[qI,Z6]
 |n+1,l,hn=>by
  unfold Wl;split
  .match l with
   | []=>simp[qI,Z6]
   | [x]=>simp[qI,Z6]
   |x::y::l=>simp at*;omega
  .rw[Ee h n _ (by simp;omega),Ee h n _ (by simp;omega)];refine Rx h (YY h _) (YY h _) fun z=>?_;rw[X4,X4,<-zW,yM]
theorem Zhq{l:List K}(hl:kC c l){i j:Nat}(hij:i<j)(hj:j<l.length):c (l[i]'(by omega)) l[j]<0:=yV.1 hl i j (by omega) hj hij
theorem JG:∀{l:List K} {i:Nat} (h0:1<=i) (h:i<l.length),Z6 (l.take (i+1))=if l[i]=l[i-1]'(by omega)then Z6 (l.take i)else Z6 (l.take i)++ [l[i]]
 | [],i,_,h=>by simp at h
 | [a],i,h0,h=>by simp at h;omega
 |a::b::l,0,h0,h=>by omega
 |a::b::l,1,h0,h=>by
  simp only[List.take_succ_cons,List.take_zero,Z6,List.getElem_cons_succ,List.getElem_cons_zero,xS];by_cases e:a=b
  subst e;simp;rw[z7 e,z7 (fun h=>e h.symm)];rfl
 |a::b::l,i+2,h0,h=>by
  have hi:i+1< (b::l).length:=by simpa using h
  have ih:=JG (l:=b::l) (i:=i+1) (by omega) hi;have e2:(a::b::l)[i+2-1]'(by simp at h⊢;omega)=(b::l)[i+1-1]'(by simp at h⊢;omega):=rfl;have e3:(a::b::l)[i+2]=(b::l)[i+1]:=rfl;rw[e2,e3];simp only[List.take_succ_cons,Z6]at ih⊢;by_cases e:a=b
  simp only[zh e];exact ih
  .simp only[z7 e,ih];split<;>simp
theorem BJ{l:List K}(h:l.length<2):Z6 l=l:=by
 match l,h with
 | [],_=>rfl
 | [a],_=>rfl
theorem Ry{l:List K}:Z6 (l.take 1)=l.take 1:=BJ (by simp;omega)
end
section
variable {K:Type}[DecidableEq K]{c:K->K->Int}
def nU(out:List K)(q:K):List K:=match out.getLast? with
 |none=>[q]
 |some z=>if z≠q then out++ [q]else out
def Yv(c:K->K->Int)(out:List K):List K->List K->List K
 | [],[]=>out
 |x::a,[]=>Yv c (nU out x) a []
 | [],y::b=>Yv c (nU out y) [] b
 |x::a,y::b=>if c x y<=0 then Yv c (nU out x) a (y::b)else Yv c (nU out y) (x::a) b
termination_by a b=>a.length+b.length
theorem Ef(h:jH c){out:List K}{q:K}(hq:∀x∈out,c x q<=0):nU out q=Vk c out q:=by
 unfold nU Vk;cases hg:out.getLast? with
 |none=>rfl
 |some z=>
  have hz:z∈out:=List.mem_of_getLast? hg;have:=hq z hz;simp only;by_cases e:z=q
  .subst e;have:=h.self z;rw[z7 (by simp),z7 (by omega)]
  .have:c z q≠0:=fun e2=>e ((h.zero z q).1 e2);rw[zh e,zh (by omega)]
theorem Wm(h:jH c):∀(n:Nat) (out a b:List K),a.length+b.length=n->kC c out->kC c a->kC c b->(∀x∈out,∀y,y∈a\/y∈b->c x y<=0)->Yv c out a b=Yp c out a b
 |n,out,[],[],hn,ho,ha,hb,hh=>by unfold Yv Yp;rfl
 |0,out,x::a,b,hn,_,_,_,_=>by simp at hn
 |0,out,[],y::b,hn,_,_,_,_=>by simp at hn
 |n+1,out,x::a,[],hn,ho,ha,hb,hh=>by
  have aQ:=yq.1 ha;obtain⟨h1,h2⟩:=JF h ho (q:=x) fun z hz=>hh z hz x (by simp);unfold Yv Yp;rw[Ef h fun z hz=>hh z hz x (by simp)]
  exact Wm h n (Vk c out x) a [] (by simp at hn⊢;omega) h1 aQ.2 hb (fun z hz y hy=>by
   rcases(h2 z).1 hz with hz|rfl
   exact hh z hz y (by simpa using Or.inr (by simpa using hy))
   .have:y∈a:=by simpa using hy
    have:=aQ.1 y this;omega)
 |n+1,out,[],y::b,hn,ho,ha,hb,hh=>by
  have hb':=yq.1 hb;obtain⟨h1,h2⟩:=JF h ho (q:=y) fun z hz=>hh z hz y (by simp);unfold Yv Yp;rw[Ef h fun z hz=>hh z hz y (by simp)]
  exact Wm h n (Vk c out y) [] b (by simp at hn⊢;omega) h1 ha hb'.2 (fun z hz w hw=>by
   have hw:w∈b:=by simpa using hw
   rcases(h2 z).1 hz with hz|rfl
   exact hh z hz w (by simp[hw])
   have:=hb'.1 w hw;omega)
 |n+1,out,x::a,y::b,hn,ho,ha,hb,hh=>by
  have aQ:=yq.1 ha;have hb':=yq.1 hb;unfold Yv Yp;split
  .rename_i hxy;obtain⟨h1,h2⟩:=JF h ho (q:=x) fun z hz=>hh z hz x (by simp);rw[Ef h fun z hz=>hh z hz x (by simp)]
   exact Wm h n (Vk c out x) a (y::b) (by simp at hn⊢;omega) h1 aQ.2 hb (fun z hz w hw=>by
    rcases(h2 z).1 hz with hz|rfl
    exact hh z hz w (by rcases hw with hw|hw<;>simp[hw]<;>simp at hw<;>simp[hw])
    .rcases hw with hw|hw
     have:=aQ.1 w hw;omega
     .rcases zK.1 hw with rfl|hw
      exact hxy
      exact h.trans _ _ _ hxy (by have:=hb'.1 w hw;omega))
  .rename_i hxy;have F0:=h.gt hxy;obtain⟨h1,h2⟩:=JF h ho (q:=y) fun z hz=>hh z hz y (by simp);rw[Ef h fun z hz=>hh z hz y (by simp)]
   exact Wm h n (Vk c out y) (x::a) b (by simp at hn⊢;omega) h1 ha hb'.2 (fun z hz w hw=>by
    rcases(h2 z).1 hz with hz|rfl
    exact hh z hz w (by rcases hw with hw|hw<;>simp[hw]<;>simp at hw<;>simp[hw])
    .rcases hw with hw|hw
     .rcases zK.1 hw with rfl|hw
      omega;exact h.trans _ x _ (by omega) (by have:=aQ.1 w hw;omega)
     have:=hb'.1 w hw;omega)
def og(c:K->K->Int)(l:List K):List K:=if l.length<2 then l else Yv c [] (og c (l.take (l.length/2))) (og c (l.drop (l.length/2)))
termination_by l.length
decreasing_by
 simp only[zu];omega;simp only[zF];omega
theorem Eg(h:jH c):∀(n:Nat) (l:List K),l.length<=n->og c l=qI c l
 |0,l,hn=>by
  have:l=[]:=zJ.1 (by omega);subst this;unfold og;simp[qI,Z6]
 |n+1,l,hn=>by
  unfold og;split
  .match l with
   | []=>simp[qI,Z6]
   | [x]=>simp[qI,Z6]
   |x::y::l=>simp at*;omega
  .rw[Eg h n _ (by simp;omega),Eg h n _ (by simp;omega),Wm h _ _ _ _ rfl Rw (YY h _) (YY h _) (by simp)];refine Rx h (YY h _) (YY h _) fun z=>?_;rw[X4,X4,<-zW,yM]
theorem ZjE{J:Type}[DecidableEq J]{d:J->J->Int}(h:jH c)(h':jH d)(f:K->J)(hf:∀x y,d (f x) (f y)=c x y)(l:List K):(qI c l).map f=qI d (l.map f):=by
 refine BH h' ?_ fun y=>?_
 .have:=YY h l;unfold kC at this⊢;rw[vY];exact this.imp fun{a b} hab=>by rw[hf];exact hab
 simp only[zY,X4]
end
def ZS(t:Tm):List (List UInt8):=if t.k=2 then [t.t]else []
def Zx(q:Qd):List (List UInt8):=ZS q.s++ZS q.p++ZS q.o++ZS q.g
def ZE(l:List Qd):List (List UInt8):=l.flatMap Zx
def Yq(s:List UInt8):Tm:=⟨2,s,[],[]⟩
theorem Zff(x y:List UInt8):YI (Yq x) (Yq y)=cmpL x y:=by
 have h1:qF 2 2=0:=by decide
 have h2:cmpL ([]:List UInt8) []=0:=jO.self [];simp only[YI,Yq,Tm.key,J3,h1,h2];split<;>simp_all
theorem Zdd(l:List (List UInt8)):(qI YI (l.map Yq)).map Tm.t=qI cmpL l:=by
 rw[<-ZjE jO oK Yq Zff,xF];conv=>rhs;rw[<-List.map_id (qI cmpL l)]
 rfl
abbrev Pr:=List UInt8×List UInt8
def jX(ps:List Pr)(s:List UInt8):Option (List UInt8):=(ps.find? fun p=>decide (p.1=s)).map Prod.snd
def X7(ps:List Pr)(t:Tm):Tm:=if t.k=2 then match jX ps t.t with|some u=>{t with t:=u}|none=>t else t
def Vm(ps:List Pr)(q:Qd):Qd:=⟨X7 ps q.s,X7 ps q.p,X7 ps q.o,X7 ps q.g⟩
end Go.Our
namespace Go.Our
open Go.Sx
structure nw(Y:Type)[DecidableEq Y] where
 ks:Bool×List CK
 enc:Y->SV
 is:∀a b,nJ ks (enc a) (enc b)=decide (a=b)
 ok:∀a,Vz ks (enc a)=true
 pl:∀a,plain (enc a)=true
section
variable {Y Z:Type}[DecidableEq Y](K:nw Y)
def oo(f:Z->SV)(l:List (Y×Z)):List (List SV):=l.map fun p=>[K.enc p.1,f p.2]
def Xw(es:Nat)(f:Z->List (List SV))(l:List (Y×Z)):List (List DC):=l.map fun p=>[.v (K.enc p.1), .wZ es (f p.2)]
def fM(a:Y):List (Y×Z)->Option (Nat×Z)
 | []=>none
 |(k,v)::r=>if a=k then some (0,v)else(fM a r).map fun p=>(p.1+1,p.2)
def jt(a:Y):List (Y×Z)->Option Z
 | []=>none
 |(k,v)::r=>if a=k then some v else jt a r
def kO(a:Y)(v:Z):List (Y×Z)->List (Y×Z)
 | []=>[(a,v)]
 |(k,u)::r=>if a=k then(k,v)::r else(k,u)::kO a v r
theorem BK(a:Y):∀l:List (Y×Z),(fM a l).map Prod.snd=jt a l
 | []=>rfl
 |(k,v)::r=>by
  unfold fM jt;split
  rfl
  rw[ux,<-BK a r];rfl
theorem UH{a:Y}{l:List (Y×Z)}(h:fM a l=none):jt a l=none:=by rw[<-BK,h];rfl
theorem Eh{a:Y}{l:List (Y×Z)}{i:Nat}{v:Z}(h:fM a l=some (i,v)):jt a l=some v:=by rw[<-BK,h];rfl
theorem BL(a b:Y)(v:Z):∀l:List (Y×Z),jt b (kO a v l)=if b=a then some v else jt b l
 | []=>by
   simp only[kO,jt]
 |(k,u)::r=>by
  unfold kO;by_cases h:a=k
  .subst h;rw[zh rfl];simp only[jt];by_cases e:b=a
   rw[zh e,zh e];rw[z7 e,z7 e,z7 e]
  .rw[z7 h];simp only[jt,BL a b v r];by_cases e:b=k
   subst e;rw[zh rfl,z7 (fun e=>h e.symm),zh rfl];rw[z7 e,z7 e]
theorem Ei(f:Z->SV)(a:Y):∀(l:List (Y×Z)) (i:Nat),U6 K.ks (K.enc a) i (oo K f l)=(fM a l).map fun p=>(i+p.1,f p.2)
 | [],i=>rfl
 |(k,v)::r,i=>by
  have ih:=Ei f a r (i+1);simp only[oo,zI,U6,K.is,fM]at ih⊢;by_cases h:a=k
  simp[h]
  .simp only[h,uV,v8,ih,ux];congr 1;funext p;simp only[Function.comp,yF,xo];omega
theorem VL(f:Z->SV)(l:List (Y×Z)):V3 K.ks (oo K f l):=by
 intro r hr;obtain⟨p,_,rfl⟩:=zY.1 hr;exact⟨_,_,rfl,K.ok _⟩
theorem WW{a:Y}{v:Z}:∀{l:List (Y×Z)} {i:Nat} {u:Z},fM a l=some (i,u)->kO a v l=l.modify i (fun p=>(p.1,v))
 | [],_,_,h=>by cases h
 |(k,w)::r,i,u,h=>by
  unfold fM at h;unfold kO;split at h
  .rename_i e;injection h with h;injection h with h1 h2;subst h1;rw[zh e,List.modify_zero_cons]
  .rename_i e;obtain⟨⟨j,x⟩,hj,he⟩:=zB.1 h;injection he with h1 h2;subst h1;rw[z7 e,List.modify_succ_cons,WW hj]
theorem BM{a:Y}{v:Z}:∀{l:List (Y×Z)},fM a l=none->kO a v l=l++ [(a,v)]
 | [],_=>rfl
 |(k,w)::r,h=>by
  unfold fM at h;unfold kO;split at h
  cases h
  .rename_i e;rw[z7 e,List.cons_append,BM (by simpa using h)]
theorem BN(f:Z->SV)(a:Y)(v:Z)(l:List (Y×Z)):oD K.ks (K.enc a) (f v) (oo K f l)=oo K f (kO a v l):=by
 unfold oD;rw[Ei];cases h:fM a l with
 |none=>simp only[Option.map_none];rw[BM h];simp[oo]
 |some p=>
  obtain⟨i,u⟩:=p;simp only[Option.map_some,zy];rw[WW h];unfold oo;apply yx;intro j;rw[yp,z6,z6,yp];by_cases e:i=j
  .subst e;cases l[i]?<;>simp[oC]
  cases l[j]?<;>simp[e]
theorem ZjF(f:Z->SV)(hf:∀b,plain (f b)=true)(l:List (Y×Z)):Zp (oo K f l)=true:=by
 unfold oo;exact ZH _ (fun p=>by simp only[YM,K.pl,hf,zD]) l
theorem Kl(es:Nat)(f:Z->List (List SV))(a:Y):∀(l:List (Y×Z)) (i:Nat),findD K.ks (K.enc a) i (Xw K es f l)=(fM a l).map fun p=>(i+p.1, .wZ es (f p.2))
 | [],i=>rfl
 |(k,v)::r,i=>by
  have ih:=Kl es f a r (i+1);simp only[Xw,zI,findD,ZT,K.is,fM]at ih⊢;by_cases h:a=k
  simp[h]
  .simp only[h,uV,v8,ih,ux];congr 1;funext p;simp only[Function.comp,yF,xo];omega
theorem Rz(es:Nat)(f:Z->List (List SV))(l:List (Y×Z)):V3 K.ks (ZB (Xw K es f l)):=by
 intro r hr;unfold ZB Xw at hr;rw[xF]at hr;obtain⟨p,_,rfl⟩:=zY.1 hr;exact⟨_,_,rfl,K.ok _⟩
theorem Zlq(es:Nat)(f:Z->List (List SV))(a:Y)(v:Z)(l:List (Y×Z)):gu K.ks (K.enc a) (.wZ es (f v)) (Xw K es f l)=Xw K es f (kO a v l):=by
 unfold gu;rw[Kl];cases h:fM a l with
 |none=>simp only[Option.map_none];rw[BM h];simp[Xw]
 |some p=>
  obtain⟨i,u⟩:=p;simp only[Option.map_some,zy];rw[WW h];unfold Xw;apply yx;intro j;rw[yp,z6,z6,yp];by_cases e:i=j
  .subst e;cases l[i]?<;>simp[fO]
  cases l[j]?<;>simp[e]
theorem BO{a:Y}:∀{l:List (Y×Z)} {i:Nat} {u:Z},fM a l=some (i,u)->l[i]?=some (a,u)
 | [],i,u,h=>by cases h
 |(k,w)::l,i,u,h=>by
  unfold fM at h;split at h
  .rename_i e;injection h with h;injection h with h1 h2;subst h1 h2 e
   rfl
  .obtain⟨⟨j,x⟩,hj,he⟩:=zB.1 h;injection he with h1 h2;subst h1 h2;simpa using BO hj
theorem ZjG(es:Nat)(f:Z->List (List SV))(d:DC){a:Y}{v:Z}{l:List (Y×Z)}{i j:Nat}{u:Z}(h:fM a l=some (i,u))(hj:j=i):((Xw K es f l).modify i (fO d)).modify j (fO (.wZ es (f v)))=Xw K es f (kO a v l):=by
 subst hj;rw[WW h];unfold Xw;apply yx;intro k;rw[yp,yp,z6,z6,yp];by_cases e:j=k
 .subst e;rw[BO h];simp[fO]
 cases l[k]?<;>simp[e]
end
section
variable {Y Z:Type}[DecidableEq Y]
theorem bJ.A(K:nw Y)(f:Z->SV)(a:Y)(l:List (Y×Z)){J:Type}{A:Nat->SV->J->Prop}{B:J->Prop}{j:J}(hs:∀i v,fM a l=some (i,v)->A (0+i) (f v) j)(hn:fM a l=none->B j):bJ (U6 K.ks (K.enc a) 0 (oo K f l)) A B j:=by
 refine bJ.mk (fun i v hf=>?_) (fun hf=>?_)
 .obtain⟨⟨k,x⟩,hj,he⟩:=zB.1 ((Ei K f a l 0).symm.trans hf);cases he
  exact hs _ _ hj
 exact hn (uO.1 ((Ei K f a l 0).symm.trans hf))
theorem kF.A(K:nw Y)(es:Nat)(f:Z->List (List SV))(a:Y)(l:List (Y×Z)){J:Type}{A:Nat->DC->J->Prop}{B:J->Prop}{j:J}(hs:∀i v,fM a l=some (i,v)->A (0+i) (.wZ es (f v)) j)(hn:fM a l=none->B j):kF (findD K.ks (K.enc a) 0 (Xw K es f l)) A B j:=by
 refine kF.mk (fun i v hf=>?_) (fun hf=>?_)
 .obtain⟨⟨k,x⟩,hj,he⟩:=zB.1 ((Kl K es f a l 0).symm.trans hf);cases he
  exact hs _ _ hj
 exact hn (uO.1 ((Kl K es f a l 0).symm.trans hf))
end
def KT:nw (List UInt8) where
 ks:=(false,[.str])
 enc:= .str
 is a b:=by rw[zZ];simp[nJ,Uo,Yg,Zk]
 ok a:=by simp[Vz,Uo,Yg,Zk]
 pl a:=rfl
def KI:nw Int where
 ks:=(false,[.int .i64])
 enc:= .int .i64
 is a b:=by rw[zZ];simp[nJ,Uo,Yg,Zk,J9]
 ok a:=by simp[Vz,Uo,Yg,Zk,J9]
 pl a:=rfl
abbrev LB:=List UInt8
end Go.Our
namespace Go.Our
open Go Go.Sx
def XW(q:Qd):List Tm:=[q.s,q.p,q.o,q.g]
end Go.Our

namespace Go.Our
open Go.Sx Go.Lib
theorem Z8R(u:Nat):decDigits u≠ []:=by
 rw[decDigits];split<;>simp
theorem Wn(u:Nat):(decDigits u).length<=u+1:=by
 induction u using Nat.strongRecOn with
 |_ u ih=>
  rw[decDigits];split
  simp
  .have:=ih (u/10) (by omega);rw[zg,List.length_singleton];omega
def Ej(l:List UInt8):Nat:=l.foldl (fun a c=>a*10+(c.toNat-48)) 0
theorem RA(u:Nat):Ej (decDigits u)=u:=by
 induction u using Nat.strongRecOn with
 |_ u ih=>
  rw[decDigits];split
  .rename_i h;simp only[Ej,List.foldl_cons,List.foldl_nil,yT,zy,vt];omega
  .rename_i h;have:=ih (u/10) (by omega);unfold Ej at this⊢;rw[vZ,this];simp only[List.foldl_cons,List.foldl_nil,vt];omega
end Go.Our
namespace Go.Our
def BP(x y:List (List UInt8))(ps:List Pr):Bool:=
 decide (ps.length=x.length)&&decide (x.length=y.length)&&decide ((ps.map Prod.fst).mergeSort (kK cmpL)=x)&&decide ((ps.map Prod.snd).mergeSort (kK cmpL)=y)
section
variable {K:Type}[DecidableEq K]{c:K->K->Int}
theorem YZ(h:jH c){l:List K}(hl:kC c l):l.Nodup:=List.Pairwise.imp (fun h1=>h.ne h1) hl
theorem JH(h:jH c)(l:List K):(l.mergeSort (kK c)).Pairwise (fun a b=>c a b<=0):=by
 have:=uM (le:=kK c) (fun a b d h1 h2=>by rw[Wj h]at*;exact h.trans a b d h1 h2) (fun a b=>by
  have:=h.anti a b
  rw[yI,Wj h,Wj h];omega) l
 exact this.imp fun h1=>(Wj h).1 h1
end
end Go.Our
namespace Go.Our
open Go.Sx Go.Lib
theorem Zfh(u:Nat):∀c∈decDigits u,48<=c.toNat/\c.toNat<=57:=by
 induction u using Nat.strongRecOn with
 |_ u ih=>
  rw[decDigits];intro c hc;split at hc
  rw[zL.1 hc,vt];omega
  .rcases zW.1 hc with hc|hc
   exact ih (u/10) (by omega) c hc;rw[zL.1 hc,vt];omega
theorem RB{u v:Nat}(h:decDigits u=decDigits v):u=v:=by
 have:=ze Ej h;rwa [RA,RA]at this
section
variable {K:Type}[BEq K][LawfulBEq K]
def XP(l:List K):List K:=l.foldl (fun acc k=>if k∈acc then acc else acc++ [k]) []
theorem BQ(l:List K){i:Nat}(h:i<l.length):XP (l.take (i+1))=if l[i]∈XP (l.take i)then XP (l.take i)else XP (l.take i)++ [l[i]]:=by
 unfold XP;rw[zH h,vZ];rfl
theorem RC(l:List K)(i:Nat):(XP (l.take i)).length<=i:=by
 induction i with
 |zero=>simp[XP]
 |succ i ih=>
  by_cases hl:i<l.length
  .rw[BQ l hl];split
   omega;simp;omega
  .rw[zi (by omega)]at ih⊢;omega
theorem Z8T(l:List K)(i:Nat):(XP (l.take i)).Nodup:=by
 induction i with
 |zero=>simp[XP]
 |succ i ih=>
  by_cases hl:i<l.length
  .rw[BQ l hl];split
   exact ih
   .rename_i hn;exact List.nodup_append.2 ⟨ih,by simp,fun a ha b hb=>by rw[zL.1 hb];exact fun e=>hn (e▸ha)⟩
  .rw[zi (by omega)]at ih⊢;exact ih
end
structure Pre{K:Type}(c:K->K->Int):Prop where
 anti:∀a b,c a b<0<->0<c b a
 trans:∀a b d,c a b<=0->c b d<=0->c a d<=0
section
variable {K:Type}{c:K->K->Int}
theorem Pre.refl(h:Pre c)(a:K):c a a=0:=by have:=h.anti a a;omega
theorem Pre.flip(h:Pre c){a b:K}(e:c a b=0):c b a=0:=by have:=h.anti a b;have:=h.anti b a;omega
theorem Pre.pM(h:Pre c){a b d:K}(h1:c a b<0)(h2:c b d<=0):c a d<0:=by
 have h3:=h.trans a b d (by omega) h2;rcases vS h3 with h4|h4
 exact h4
 .have h5:=h.flip h4;have h6:=h.trans b d a h2 (by omega);have:=h.anti a b;omega
theorem Pre.tF(h:Pre c){a b d:K}(h1:c a b<=0)(h2:c b d<0):c a d<0:=by
 have h3:=h.trans a b d h1 (by omega);rcases vS h3 with h4|h4
 exact h4
 .have h5:=h.flip h4;have h6:=h.trans d a b (by omega) h1;have:=h.anti b d;omega
def qG(c:K->K->Int)(l:List K)(x:K):Nat:=l.countP fun y=>decide (c y x<0)
theorem Zfj{l m:List K}(h:l.Perm m)(x:K):qG c l x=qG c m x:=h.countP_eq _
theorem bA{p:K->Bool}:∀{o:List K} {r:Nat},r<=o.length->(∀j (h:j<o.length),p o[j]=true<->j<r)->o.countP p=r
 | [],r,hr,_=>by simp at hr;simp[hr]
 |a::o,0,_,h=>by
  rw[List.countP_eq_zero];intro x hx;obtain⟨j,hj,rfl⟩:=xZ.1 hx;have:=h j hj;simp only[Nat.not_lt_zero,iff_false]at this;exact this
 |a::o,r+1,hr,h=>by
  have h0:=(h 0 (by simp)).2 (by omega);simp only[List.getElem_cons_zero]at h0;rw[List.countP_cons_of_pos h0];congr 1
  exact bA (by simpa using hr) fun j hj=>by
   have:=h (j+1) (by simpa using hj);simpa using this
def Qf[Inhabited K](c:K->K->Int)(o:List K):Nat->Nat
 |0=>0
 |i+1=>if c (o.getD i default) (o.getD (i+1) default)=0 then Qf c o i else i+1
theorem RD[Inhabited K](o:List K):∀i,Qf c o i<=i
 |0=>zo _
 |i+1=>by unfold Qf;split
          exact Nat.le_succ_of_le (RD o i);exact zo _
theorem RE[Inhabited K](h:Pre c){o:List K}(hs:o.Pairwise fun a b=>c a b<=0):∀i (hi:i<o.length) j (hj:j<o.length),c o[j] o[i]<0<->j<Qf c o i
 |0,hi,j,hj=>by
  have:¬c o[j] o[0]<0:=fun h1=>by
   have h2:c o[0] o[j]<=0:=by
    rcases xl j with e|e
    subst e;have:=h.refl o[0];omega;exact(yV.1 hs) 0 j hi hj e
   have:=h.anti o[j] o[0];omega
  simp[Qf,this]
 |i+1,hi,j,hj=>by
  have hi':i<o.length:=by omega
  have ih:=RE h hs i hi' j hj;have hd:o.getD i default=o[i]:=by rw[zl,z1 hi'];rfl
  have hd':o.getD (i+1) default=o[i+1]:=by rw[zl,z1 hi];rfl
  unfold Qf;rw[hd,hd'];by_cases e:c o[i] o[i+1]=0
  .rw[zh e,<-ih];constructor
   intro h1;have:=h.flip e;exact h.pM h1 (by omega);intro h1;exact h.pM h1 (by omega)
  .rw[z7 e];have hle:c o[i] o[i+1]<=0:=(yV.1 hs) i (i+1) hi' hi (by omega);constructor
   .intro h1;refine yE fun hn=>?_
    have h2:c o[i+1] o[j]<=0:=by
     rcases Nat.eq_or_lt_of_le (u9 hn)with e2|e2
     subst e2;have:=h.refl o[i+1];omega;exact(yV.1 hs) (i+1) j hi hj e2
    have:=h.anti o[j] o[i+1];omega
   .intro h1
    have h2:c o[j] o[i]<=0:=by
     rcases Nat.eq_or_lt_of_le (Nat.le_of_lt_succ h1)with e2|e2
     subst e2;have:=h.refl o[j];omega;exact(yV.1 hs) j i hj hi' e2
    exact h.tF h2 (by omega)
theorem BR[Inhabited K](h:Pre c){o:List K}(hs:o.Pairwise fun a b=>c a b<=0){i:Nat}(hi:i<o.length):qG c o o[i]=Qf c o i:=
 bA (zP (RD o i) (by omega)) fun j hj=>by simpa using RE h hs i hi j hj
end
def Y5:List Qd->List Qd->Int
 | [],[]=>0
 | [],_::_=> -1
 |_::_,[]=>1
 |a::l,b::m=>if ZM a b=0 then Y5 l m else ZM a b
theorem aR:jH Y5 where
 nS:=by
  intro a
  induction a with
  |nil=>intro b;cases b<;>simp[Y5]
  |cons x a ih=>
   intro b;cases b with
   |nil=>simp[Y5]
   |cons y b=>
    unfold Y5;split
    exact ih b;exact jP.nS x y
 anti:=by
  intro a
  induction a with
  |nil=>intro b;cases b<;>simp[Y5]
  |cons x a ih=>
   intro b;cases b with
   |nil=>simp[Y5]
   |cons y b=>
    unfold Y5;have:=jP.anti x y;by_cases e:ZM x y=0
    rw[zh e,zh (by omega),ih b];rw[z7 e,z7 (by omega),this]
 zero:=by
  intro a
  induction a with
  |nil=>intro b;cases b<;>simp[Y5]
  |cons x a ih=>
   intro b;cases b with
   |nil=>simp[Y5]
   |cons y b=>
    unfold Y5;by_cases e:ZM x y=0
    .rw[zh e,ih b,yJ];have:=(jP.zero x y).1 e;simp[this]
    .rw[z7 e,yJ];constructor
     exact fun h=>(e h).elim;exact fun h=>(e ((jP.zero x y).2 h.1)).elim
 trans:=by
  intro a
  induction a with
  |nil=>intro b d _ h2;cases b<;>cases d<;>simp_all[Y5]
  |cons x a ih=>
   intro b d h1 h2;cases b with
   |nil=>simp[Y5]at h1
   |cons y b=>
    cases d with
    |nil=>simp[Y5]at h2
    |cons z d=>
     unfold Y5 at h1 h2⊢;by_cases e1:ZM x y=0
     .rw[zh e1]at h1;have:=(jP.zero x y).1 e1;subst this;by_cases e2:ZM x z=0
      .rw[zh e2]at h2⊢;exact ih b d h1 h2
      .rw[z7 e2]at h2⊢;exact h2
     .rw[z7 e1]at h1;by_cases e2:ZM y z=0
      .have:=(jP.zero y z).1 e2;subst this;rw[z7 e1];exact h1
      .rw[z7 e2]at h2;have h3:ZM x z<0:=jP.lt_trans (by omega) h2;rw[z7 (by omega)];omega
def ny(n:Nat):LB:=List.replicate (4-(decDigits n).length) 48++decDigits n
def Xr(A:List LB)(cl:List Int)(x:Nat)(t:Tm):Tm:=if t.k=2 then{t with t:=if A.idxOf t.t=x then [120]else ny (cl.getD (A.idxOf t.t) 0).toNat}else t
def s8(A:List LB)(cl:List Int)(x:Nat)(q:Qd):Qd:=⟨Xr A cl x q.s,Xr A cl x q.p,Xr A cl x q.o,Xr A cl x q.g⟩
def au(A:List LB)(l:List Qd)(x:Nat):List Nat:=(List.range l.length).filter fun k=>decide (A.getD x []∈Zx (l.getD k ⟨YN,YN,YN,YN⟩))
def tG(A:List LB)(l:List Qd)(cl:List Int)(x:Nat):List Qd:=(au A l x).map fun k=>s8 A cl x (l.getD k ⟨YN,YN,YN,YN⟩)
def Yu(A:List LB)(l:List Qd)(cl:List Int)(x:Nat):List Qd:=(tG A l cl x).mergeSort (kK ZM)
def UZ(A:List LB)(l:List Qd)(cl:List Int)(a b:Nat):Int:=if qF (cl.getD a 0) (cl.getD b 0)=0 then Y5 (Yu A l cl a) (Yu A l cl b)else qF (cl.getD a 0) (cl.getD b 0)
theorem Zfk(A:List LB)(l:List Qd)(cl:List Int)(a b:Nat):UZ A l cl b a= -UZ A l cl a b:=by
 unfold UZ;have h:=cG.anti (cl.getD a 0) (cl.getD b 0);by_cases e:qF (cl.getD a 0) (cl.getD b 0)=0
 rw[zh e,zh (by omega),aR.anti (Yu A l cl a)];rw[z7 e,z7 (by omega),h]
theorem VM(A:List LB)(l:List Qd)(cl:List Int):Pre (UZ A l cl) where
 anti a b:=by have:=Zfk A l cl a b;omega
 trans a b d h1 h2:=by
  unfold UZ at*;by_cases e1:qF (cl.getD a 0) (cl.getD b 0)=0
  .rw[zh e1]at h1;have ee:=(cG.zero _ _).1 e1;by_cases e2:qF (cl.getD b 0) (cl.getD d 0)=0
   .rw[zh e2]at h2;rw[ee,zh e2];exact aR.trans _ _ _ h1 h2
   .rw[z7 e2]at h2;rw[ee,z7 e2];exact h2
  .rw[z7 e1]at h1;by_cases e2:qF (cl.getD b 0) (cl.getD d 0)=0
   .have ee:=(cG.zero _ _).1 e2;rw[<-ee,z7 e1];exact h1
   .rw[z7 e2]at h2;have h3:=cG.lt_trans (x:=cl.getD a 0) (y:=cl.getD b 0) (z:=cl.getD d 0) (by omega) h2;rw[z7 (by omega)];omega
def Yx(A:List LB)(l:List Qd)(cl:List Int):List Int:=(List.range cl.length).map fun x=>(qG (UZ A l cl) (List.range cl.length) x:Int)
theorem X0(A:List LB)(l:List Qd)(cl:List Int):(Yx A l cl).length=cl.length:=by simp[Yx]
theorem ZjH{K:Type}{c:K->K->Int}(h:Pre c){l:List K}{x:K}(hx:x∈l):qG c l x<l.length:=by
 unfold qG;refine Nat.lt_of_le_of_ne List.countP_le_length fun e=>?_;have:=(List.countP_eq_length.1 e) x hx;have h2:=h.refl x;simp at this;omega
theorem RF(A:List LB)(l:List Qd)(cl:List Int):∀c∈Yx A l cl,0<=c/\c< (cl.length:Int):=by
 intro c hc;unfold Yx at hc;obtain⟨x,hx,rfl⟩:=zY.1 hc;have:=ZjH (VM A l cl) hx;rw[yU]at this;omega
def kj(cl:List Int):Nat:=(XP cl).length
inductive Refs(A:List LB)(l:List Qd):List Int->List Int->Prop
 |stop {cl:List Int} (h:kj (Yx A l cl)=kj cl):Refs A l cl (Yx A l cl)
 |go {cl F:List Int} (h:kj (Yx A l cl)≠kj cl) (k:Refs A l (Yx A l cl) F):Refs A l cl F
theorem Refs.det{A:List LB}{l:List Qd}{cl F F':List Int}(h:Refs A l cl F)(h':Refs A l cl F'):F'=F:=by
 induction h with
 |stop hn=>cases h' with
  |stop _=>rfl
  |go hy _=>exact(hy hn).elim
 |go hy _ ih=>cases h' with
  |stop hn=>exact(hy hn).elim
  |go _ k=>exact ih k
theorem Refs.ok{A:List LB}{l:List Qd}{cl F:List Int}(h:Refs A l cl F):F.length=cl.length/\∀c∈F,0<=c/\c< (cl.length:Int):=by
 induction h with
 |stop hn=>exact⟨X0 _ _ _,RF _ _ _⟩
 |go hy _ ih=>rw[X0]at ih;exact ih
def JI:List Qd->List Qd->Int
 | [],b=> -(b.length:Int)
 |a,[]=>(a.length:Int)
 |x::a,y::b=>if ZM x y=0 then JI a b else ZM x y
theorem Zde(a:List Qd):JI a []=(a.length:Int):=by cases a<;>simp[JI]
theorem BS:∀a b:List Qd,(JI a b<0<->Y5 a b<0)/\(JI a b=0<->Y5 a b=0)
 | [],[]=>by simp[JI,Y5]
 | [],y::b=>by simp only[JI,Y5,List.length_cons];omega
 |x::a,[]=>by simp only[JI,Y5,List.length_cons];omega
 |x::a,y::b=>by
  simp only[JI,Y5];split
  exact BS a b;exact⟨xK,xK⟩
theorem Zav{a b:List Qd}{i:Nat}(h1:i<a.length)(h2:i<b.length):JI (a.drop i) (b.drop i)=if ZM a[i] b[i]=0 then JI (a.drop (i+1)) (b.drop (i+1))else ZM a[i] b[i]:=by
 rw[zq h1,zq h2];rfl
theorem RG{a b:List Qd}{i:Nat}(h:i=a.length\/i=b.length)(h1:i<=a.length)(h2:i<=b.length):JI (a.drop i) (b.drop i)=(a.length:Int)-(b.length:Int):=by
 rcases h with rfl|rfl
 .rw[vI];simp only[JI,zF];omega
 rw[vI,Zde,zF];omega
def VN(ca cb:Int)(a b:List Qd):Int:=if ca=cb then JI a b else ca-cb
theorem Zaw(ca cb:Int)(a b:List Qd):(VN ca cb a b<0<->(if qF ca cb=0 then Y5 a b else qF ca cb)<0)/\(VN ca cb a b=0<->(if qF ca cb=0 then Y5 a b else qF ca cb)=0):=by
 have hz:=cG.zero ca cb;unfold VN;by_cases h:ca=cb
 .rw[zh h,zh (hz.2 h)];exact BS a b
 .rw[z7 h,z7 (fun e=>h (hz.1 e))];unfold qF;constructor<;>(repeat' split)<;>omega
theorem BT{K J:Type}[DecidableEq K](a:K)(v:J):∀l:List (K×J),(kO a v l).map Prod.fst=if a∈l.map Prod.fst then l.map Prod.fst else l.map Prod.fst++ [a]
 | []=>by simp[kO]
 |(k,u)::r=>by
  unfold kO;by_cases e:a=k
  subst e;simp
  .rw[z7 e,zI,BT a v r,zI];by_cases h:a∈r.map Prod.fst
   rw[zh h,zh (zV _ h)];rw[z7 h,z7 (fun h2=>(zK.1 h2).elim e h)];rfl
theorem Zdf{K J:Type}[DecidableEq K]{a:K}{v:J}{l:List (K×J)}(h:(l.map Prod.fst).Nodup):((kO a v l).map Prod.fst).Nodup:=by
 rw[BT];split
 exact h
 .rename_i hm;rw[List.nodup_append];refine⟨h,by simp,fun x hx y hy e=>?_⟩;rw[zL]at hy;subst hy e;exact hm hx
def qK(cl:List Int)(c:Int):List Nat:=(List.range cl.length).filter fun x=>decide (cl.getD x 0=c)
def Jb(cl:List Int):Option Nat:=(List.range cl.length).find? fun c=>decide (1< (qK cl (c:Int)).length)
def XQ(cl:List Int)(c:Int)(x:Nat):List Int:=(List.range cl.length).map fun y=>if y≠x/\cl.getD y 0=c then c+1 else cl.getD y 0
theorem Ek(cl:List Int)(c:Int)(x:Nat):(XQ cl c x).length=cl.length:=by simp[XQ]
open Classical in
noncomputable def dS (A:List LB)(l:List Qd)(cl:List Int):List Int:=if h:∃F,Refs A l cl F then h.choose else []
theorem El{A:List LB}{l:List Qd}{cl F:List Int}(h:Refs A l cl F):dS A l cl=F:=by
 have hx:∃F,Refs A l cl F:=⟨F,h⟩;unfold dS;rw[yg hx];exact h.det hx.choose_spec
noncomputable def Vn (A:List LB)(l:List Qd)(B:Nat):Nat->List Int->Nat×List (List Int)->Nat×List (List Int)
 |0,_,s=>s
 |k+1,cl,s=>if B<s.1+1 then(s.1+1,s.2)else match Jb cl with
  |none=>(s.1+1,s.2++ [cl])
  |some c=>(qK cl (c:Int)).foldl (fun s x=>if B<s.1 then s else Vn A l B k (dS A l (XQ cl (c:Int) x)) s) (s.1+1,s.2)
noncomputable def W0 (A:List LB)(l:List Qd)(B k:Nat)(cl:List Int)(c:Int)(xs:List Nat)(s:Nat×List (List Int)):Nat×List (List Int):=
 xs.foldl (fun s x=>if B<s.1 then s else Vn A l B k (dS A l (XQ cl c x)) s) s
section
variable {A:List LB}{l:List Qd}{B:Nat}
theorem Wo{k:Nat}{cl:List Int}{s:Nat×List (List Int)}(h:B<s.1+1):Vn A l B (k+1) cl s=(s.1+1,s.2):=by
 unfold Vn;rw[zh h]
theorem Wp{k:Nat}{cl:List Int}{s:Nat×List (List Int)}(h:¬B<s.1+1)(hs:Jb cl=none):Vn A l B (k+1) cl s=(s.1+1,s.2++ [cl]):=by
 unfold Vn;rw[z7 h,hs]
theorem Wq{k c:Nat}{cl:List Int}{s:Nat×List (List Int)}(h:¬B<s.1+1)(hs:Jb cl=some c):Vn A l B (k+1) cl s=W0 A l B k cl (c:Int) (qK cl (c:Int)) (s.1+1,s.2):=by
 unfold Vn;rw[z7 h,hs];rfl
theorem Vo{k:Nat}{cl:List Int}{c:Int}:∀{xs:List Nat} {s:Nat×List (List Int)},B<s.1->W0 A l B k cl c xs s=s
 | [],s,_=>rfl
 |x::xs,s,h=>by
  unfold W0;rw[List.foldl_cons,zh h];exact Vo (xs:=xs) h
theorem Wr{k:Nat}{cl:List Int}{c:Int}{x:Nat}{xs:List Nat}{s:Nat×List (List Int)}(h:¬B<s.1):W0 A l B k cl c (x::xs) s=W0 A l B k cl c xs (Vn A l B k (dS A l (XQ cl c x)) s):=by
 unfold W0;rw[List.foldl_cons,z7 h]
theorem Zfl{k:Nat}{cl:List Int}{c:Int}{xs:List Nat}{i:Nat}{s:Nat×List (List Int)}(hi:i<xs.length)(h:¬B<s.1):W0 A l B k cl c (xs.drop i) s=W0 A l B k cl c (xs.drop (i+1)) (Vn A l B k (dS A l (XQ cl c xs[i])) s):=by
 rw[zq hi,Wr h]
theorem Em:∀(k:Nat) (cl:List Int) (s:Nat×List (List Int)),s.1<=(Vn A l B k cl s).1
 |0,_,_=>zo _
 |k+1,cl,s=>by
  have go:∀(c:Int) (xs:List Nat) (s:Nat×List (List Int)),s.1<=(W0 A l B k cl c xs s).1:=fun c xs=>by
   induction xs with
   |nil=>exact fun s=>zo _
   |cons x xs ih=>
    intro s;by_cases h:B<s.1
    rw[Vo h];exact zo _
    .rw[Wr h];exact zP (Em k _ s) (ih _)
  by_cases h:B<s.1+1
  rw[Wo h];show s.1<=s.1+1;omega
  .cases hs:Jb cl with
   |none=>rw[Wp h hs];show s.1<=s.1+1;omega
   |some c=>
    rw[Wq h hs];have:=go (c:Int) (qK cl (c:Int)) (s.1+1,s.2);dsimp only at this;omega
theorem RH:∀(k:Nat) (cl:List Int) (s:Nat×List (List Int)),s.1<=B->(Vn A l B k cl s).1<=B+1
 |0,_,s,h=>by show s.1<=B+1;omega
 |k+1,cl,s,h0=>by
  have go:∀(c:Int) (xs:List Nat) (s:Nat×List (List Int)),s.1<=B+1->(W0 A l B k cl c xs s).1<=B+1:=fun c xs=>by
   induction xs with
   |nil=>exact fun s h=>h
   |cons x xs ih=>
    intro s hb;by_cases h:B<s.1
    rw[Vo h];exact hb
    .rw[Wr h];exact ih _ (RH k _ s (by omega))
  by_cases h:B<s.1+1
  rw[Wo h];show s.1+1<=B+1;omega
  .cases hs:Jb cl with
   |none=>rw[Wp h hs];show s.1+1<=B+1;omega
   |some c=>rw[Wq h hs];exact go _ _ _ (by show s.1+1<=B+1;omega)
end
def YQ(fm:List Int->List Qd):Option (List Qd×List Int)->List Int->Option (List Qd×List Int)
 |none,cl=>some (fm cl,cl)
 |some p,cl=>if Y5 (fm cl) p.1<0 then some (fm cl,cl)else some p
def JJ(fm:List Int->List Qd)(Ls:List (List Int)):Option (List Qd×List Int):=Ls.foldl (YQ fm) none
theorem RI(fm:List Int->List Qd)(Ls:List (List Int))(cl:List Int):JJ fm (Ls++ [cl])=YQ fm (JJ fm Ls) cl:=by
 unfold JJ;rw[vZ];rfl
theorem En(fm:List Int->List Qd):JJ fm []=none:=rfl
theorem Eo(fm:List Int->List Qd){Ls:List (List Int)}(h:Ls≠ []):∃cl∈Ls,JJ fm Ls=some (fm cl,cl):=by
 have go:∀(Ls:List (List Int)) (o:Option (List Qd×List Int)),Ls≠ []->(∃cl∈Ls,Ls.foldl (YQ fm) o=some (fm cl,cl))\/(o≠none/\Ls.foldl (YQ fm) o=o):=by
  intro Ls
  induction Ls with
  |nil=>exact fun o h=>(h rfl).elim
  |cons x Ls ih=>
   intro o _;rw[List.foldl_cons]
   have step:YQ fm o x=some (fm x,x)\/(o≠none/\YQ fm o x=o):=by
    cases o with
    |none=>exact .inl rfl
    |some p=>
     have e:YQ fm (some p) x=if Y5 (fm x) p.1<0 then some (fm x,x)else some p:=rfl
     rw[e];by_cases h:Y5 (fm x) p.1<0
     rw[zh h];exact .inl rfl;rw[z7 h];exact .inr ⟨by simp,rfl⟩
   by_cases hL:Ls=[]
   .subst hL;rcases step with h|h
    exact .inl ⟨x,vm _,h⟩;exact .inr h
   .rcases ih (YQ fm o x) hL with⟨cl,h1,h2⟩|⟨h1,h2⟩
    exact .inl ⟨cl,zV _ h1,h2⟩
    .rcases step with h|⟨h3,h4⟩
     exact .inl ⟨x,y5 ..,by rw[h2,h]⟩;exact .inr ⟨h3,by rw[h2,h4]⟩
 rcases go Ls none h with h1|⟨h1,_⟩
 exact h1;exact(h1 rfl).elim
end Go.Our
namespace Go.Our
section
variable {K:Type}{c:K->K->Int}
end
theorem Z8X{l:List Qd}(h:∀k (hk:k<l.length),1<=k->ZM (l[k-1]'(by omega)) l[k]<0):kC ZM l:=by
 refine yV.2 fun i j hi hj hij=>?_
 induction j with
 |zero=>omega
 |succ j ih=>
  have h1:=h (j+1) hj (by omega);simp only[Nat.add_sub_cancel]at h1;rcases uC (Nat.le_of_lt_succ hij)with h2|rfl
  exact jP.lt_trans (ih (by omega) h2) (by omega);exact h1
end Go.Our
namespace Go.Our
open Go.Sx Go.Lib
theorem RJ{K:Type}{l:List K}{d:K}{i:Nat}(h:i<l.length):l.getD i d=l[i]:=by
 rw[zl,z1 h,Option.getD_some]
def b6(c:Int):LB:=99::decDigits c.toNat
def JK(A:List LB)(cl:List Int)(t:Tm):Tm:=if t.k=2 then{t with t:=b6 (cl.getD (A.idxOf t.t) 0)}else t
def U4(A:List LB)(cl:List Int)(q:Qd):Qd:=⟨JK A cl q.s,JK A cl q.p,JK A cl q.o,JK A cl q.g⟩
def ZC(A:List LB)(l:List Qd)(cl:List Int):List Qd:=(l.map (U4 A cl)).mergeSort (kK ZM)
theorem Jt(A:List LB)(l:List Qd)(cl:List Int):(ZC A l cl).length=l.length:=by simp[ZC,yw]
def qV(A:List LB)(cl:List Int):List Pr:=(List.range A.length).map fun x=>(A.getD x [],b6 (cl.getD x 0))
theorem qD(A:List LB)(cl:List Int):(qV A cl).length=A.length:=by simp[qV]
theorem tH{A:List LB}{cl:List Int}{x:Nat}(h:x<A.length)(h':x< (qV A cl).length):(qV A cl)[x]=(A[x],b6 (cl.getD x 0)):=by
 simp only[qV,yz,x6];rw[zl,z1 h,Option.getD_some]
theorem RK{K:Type}{p:K->Bool}:∀{l:List K} {i:Nat} (h:i<l.length),p l[i]=true->(∀j (hj:j<i),p (l[j]'(by omega))=false)->l.find? p=some l[i]
 |x::l,0,h,h1,_=>by rw[List.find?_cons];simp only[List.getElem_cons_zero]at h1;rw[h1];rfl
 |x::l,i+1,h,h1,h2=>by
  have h0:=h2 0 (by omega);simp only[List.getElem_cons_zero]at h0;rw[List.find?_cons,h0];simp only[List.getElem_cons_succ]at h1⊢;exact RK (by simpa using h) h1 fun j hj=>by have:=h2 (j+1) (by omega);simpa using this
theorem Zlr{A:List LB}{cl:List Int}(hn:A.Nodup){s:LB}(hs:s∈A):jX (qV A cl) s=some (b6 (cl.getD (A.idxOf s) 0)):=by
 have hi:=yA hs;have hA:A[A.idxOf s]=s:=x7 hi;have hp:A.idxOf s< (qV A cl).length:=by rw[qD];exact hi
 unfold jX
 rw[RK (p:=fun p:Pr=>decide (p.1=s)) hp (by rw[tH hi];simp[hA]) (fun j hj=>by
  rw[tH (by omega),ym];intro e;have:=(xm hn).1 (e.trans hA.symm)
  omega)]
 rw[Option.map_some,tH hi]
theorem Ep{A:List LB}{cl:List Int}(hn:A.Nodup){t:Tm}(ht:t.k=2->t.t∈A):X7 (qV A cl) t=JK A cl t:=by
 unfold X7 JK;by_cases h:t.k=2
 rw[zh h,zh h,Zlr hn (ht h)];rw[z7 h,z7 h]
theorem Qg{q:Qd}{A:List LB}(h:∀s∈Zx q,s∈A):(q.s.k=2->q.s.t∈A)/\(q.p.k=2->q.p.t∈A)/\(q.o.k=2->q.o.t∈A)/\(q.g.k=2->q.g.t∈A):=by
 refine⟨fun e=>h _ ?_,fun e=>h _ ?_,fun e=>h _ ?_,fun e=>h _ ?_⟩<;>simp[Zx,ZS,e]
theorem Zdg{A:List LB}{cl:List Int}(hn:A.Nodup){q:Qd}(h:∀s∈Zx q,s∈A):Vm (qV A cl) q=U4 A cl q:=by
 obtain⟨h1,h2,h3,h4⟩:=Qg h;unfold Vm U4;rw[Ep hn h1,Ep hn h2,Ep hn h3,Ep hn h4]
structure qT(A:List LB)(cl:List Int):Prop where
 cn:cl.length=A.length
 cs:∀c∈cl,0<=c/\c< (cl.length:Int)
 one:Jb cl=none
theorem ZjI{K:Type}{l:List K}{x y:K}(hn:l.Nodup)(hx:x∈l)(hy:y∈l)(h:x≠y):1<l.length:=by
 match l,hx,hy with
 | [a],hx,hy=>simp at hx hy;exact(h (hx.trans hy.symm)).elim
 |a::b::l,_,_=>simp
theorem pN{cl:List Int}{c:Int}{x:Nat}:x∈qK cl c<->x<cl.length/\cl.getD x 0=c:=by
 unfold qK;rw[uo,yh,yy]
theorem Zfp(cl:List Int)(c:Int):(qK cl c).Nodup:=vh.filter _
theorem RL{A:List LB}{cl:List Int}(h:qT A cl){x y:Nat}(hx:x<cl.length)(hy:y<cl.length)(e:cl.getD x 0=cl.getD y 0):x=y:=by
 by_cases hxy:x=y
 exact hxy;exfalso;have hc:cl.getD x 0∈cl:=by rw[zl,z1 hx];exact zm hx
 obtain⟨h1,h2⟩:=h.cs _ hc;have h3:=ZjI (Zfp cl (cl.getD x 0)) (pN.2 ⟨hx,rfl⟩) (pN.2 ⟨hy,e.symm⟩) hxy;have h4:=List.find?_eq_none.1 h.one (cl.getD x 0).toNat (yh.2 (by omega));rw[yy,vQ h1]at h4;exact h4 h3
theorem Er{A:List LB}{cl:List Int}(h:qT A cl){t u:Tm}(ht:t.k=2->t.t∈A)(hu:u.k=2->u.t∈A)(e:JK A cl t=JK A cl u):t=u:=by
 unfold JK at e;by_cases h1:t.k=2
 .by_cases h2:u.k=2
  .rw[zh h1,zh h2]at e;have i1:=yA (ht h1);have i2:=yA (hu h2);have a1:A[A.idxOf t.t]=t.t:=x7 i1;have a2:A[A.idxOf u.t]=u.t:=x7 i2;obtain⟨k1,t1,y1,l1⟩:=t;obtain⟨k2,t2,y2,l2⟩:=u;simp only[Tm.mk.injEq]at e a1 a2 i1 i2⊢;obtain⟨e1,e2,e3,e4⟩:=e;refine⟨e1,?_,e3,e4⟩;unfold b6 at e2;injection e2 with _ e2;have e5:=RB e2;have b1:cl.getD (A.idxOf t1) 0∈cl:=by rw[zl,z1 (by rw[h.cn];exact i1)];exact zm _
   have b2:cl.getD (A.idxOf t2) 0∈cl:=by rw[zl,z1 (by rw[h.cn];exact i2)];exact zm _
   have c1:=(h.cs _ b1).1;have c2:=(h.cs _ b2).1;have e6:=RL h (by rw[h.cn];exact i1) (by rw[h.cn];exact i2) (show cl.getD (A.idxOf t1) 0=cl.getD (A.idxOf t2) 0 by omega);rw[<-a1,<-a2];simp only[e6]
  .rw[zh h1,z7 h2]at e;exact(h2 (by rw[<-e];exact h1)).elim
 .by_cases h2:u.k=2
  .rw[z7 h1,zh h2]at e;exact(h1 (by rw[e];exact h2)).elim
  .rw[z7 h1,z7 h2]at e;exact e
theorem Zfq{A:List LB}{cl:List Int}(h:qT A cl){q r:Qd}(hq:∀s∈Zx q,s∈A)(hr:∀s∈Zx r,s∈A)(e:U4 A cl q=U4 A cl r):q=r:=by
 obtain⟨a1,a2,a3,a4⟩:=Qg hq;obtain⟨b1,b2,b3,b4⟩:=Qg hr;unfold U4 at e;injection e with e1 e2 e3 e4;have f1:=Er h a1 b1 e1;have f2:=Er h a2 b2 e2;have f3:=Er h a3 b3 e3;have f4:=Er h a4 b4 e4;cases q;cases r
 simp only at f1 f2 f3 f4;subst f1 f2 f3 f4
 rfl
theorem RM{A:List LB}{l:List Qd}{cl:List Int}(h:qT A cl)(hA:A.Nodup)(hl:kC ZM l)(hm:∀s∈ZE l,s∈A):qI ZM (l.map (Vm (qV A cl)))=ZC A l cl:=by
 have hq:∀q∈l,∀s∈Zx q,s∈A:=fun q hq s hs=>hm s (xB.2 ⟨q,hq,hs⟩);have he:l.map (Vm (qV A cl))=l.map (U4 A cl):=yO fun q hq1=>Zdg hA (hq q hq1);rw[he];symm
 have hn:(l.map (U4 A cl)).Nodup:=by
  have h1:=YZ jP hl;rw[vN]at h1⊢;rw[vY];refine List.Pairwise.imp_of_mem (fun{a b} ha hb hne e=>hne (Zfq h (hq a ha) (hq b hb) e)) h1
 refine BH jP ?_ fun x=>by unfold ZC;rw[uB]
 have h1:=JH jP (l.map (U4 A cl));have h2:((l.map (U4 A cl)).mergeSort (kK ZM)).Nodup:=(vk _ _).nodup_iff.2 hn;unfold ZC kC;rw[vN]at h2;refine(h1.and h2).imp fun{a b} hab=>?_;have h3:=jP.zero a b;have h4:ZM a b≠0:=fun e=>hab.2 (h3.1 e);have h5:=hab.1;omega
theorem JV(x:Tm):(Vj x).length<=1310720:=by
 unfold Vj;by_cases h:wH x≠0
 rw[zh h];simp;rw[z7 h];obtain⟨h1,h2,h3⟩:=BG (yE h);have e1:=J6 2 x.t;have e2:=J6 1 x.t;have e3:=J6 2 x.y;have hk:=WV (yE h);split
 unfold bW;simp only[zg,List.length_cons,List.length_nil];omega;split
 simp only[zg,List.length_cons,List.length_nil];omega;obtain⟨h4,h5⟩:=h3 (by omega);obtain⟨h6,_⟩:=Ed (s:=x.y) (by unfold fZ at h4;split at h4<;>omega);split
 simp only[zg,List.length_cons,List.length_nil];omega;split
 unfold bW;simp only[zg,List.length_cons,List.length_nil];omega;simp only[zg,List.length_cons,List.length_nil];omega
theorem Zfr(x:Tm):(Vj x).length<=6*(x.t.length+x.y.length+x.l.length)+10:=by
 have e1:=J6 2 x.t;have e2:=J6 1 x.t;have e3:=J6 2 x.y;unfold Vj
 (repeat' split)<;>(try unfold bW)<;>simp only[zg,List.length_cons,List.length_nil]<;>omega
def VA(t:Tm):List UInt8:=if t.k≠0 then Vj t++ [32]else []
def VB(q:Qd)(j:Nat):List UInt8:=([q.s,q.p,q.o,q.g].take j).flatMap VA
def Ui(q:Qd):List UInt8:=VB q 4++ [46]
theorem BU(q:Qd)(j:Nat):(VB q j).length<=5242884:=by
 have h:∀t,(VA t).length<=1310721:=fun t=>by
  have:=JV t;unfold VA;split<;>simp<;>omega
 have hs:=h q.s;have hp:=h q.p;have ho:=h q.o;have hg:=h q.g;unfold VB
 match j with
 |0=>simp
 |1=>simp[xg];omega
 |2=>simp[xg];omega
 |3=>simp[xg];omega
 |n+4=>simp[xg];omega
theorem BV(q:Qd):(Ui q).length<=5242885:=by
 have:=BU q 4;unfold Ui;rw[zg];simp;omega
def wT(t:Tm):Nat:=20+(t.t.length+t.y.length+t.l.length)
def wQ(q:Qd):Nat:=wT q.s+wT q.p+wT q.o+wT q.g
def wL(l:List Qd):Nat:=(l.map wQ).sum
theorem Es(t:Tm):(VA t).length+100<=6*wT t:=by
 have:=Zfr t;unfold VA wT;split
 simp only[zg,List.length_cons,List.length_nil];omega;simp only[List.length_nil];omega
theorem ZjJ(q:Qd):(Ui q).length+399<=6*wQ q:=by
 have h1:=Es q.s;have h2:=Es q.p;have h3:=Es q.o;have h4:=Es q.g;unfold Ui VB wQ;simp only[List.take_succ_cons,List.take_zero,xg,List.flatMap_nil,zg,List.length_nil,List.length_cons];omega
def Zq(l:List Qd):List UInt8:=l.flatMap fun q=>Ui q++ [10]
theorem Zfs:Zq []=[]:=rfl
theorem Zdh(q:Qd)(l:List Qd):Zq (q::l)=Ui q++ [10]++Zq l:=xg
theorem RN(l m:List Qd):Zq (l++m)=Zq l++Zq m:=uv
theorem Et:∀l:List Qd,(Zq l).length<=6*wL l
 | []=>by simp[Zfs]
 |q::l=>by
  have h1:=Et l;have h2:=ZjJ q;rw[Zdh,zg,zg];unfold wL at h1⊢;rw[zI,List.sum_cons];simp only[List.length_cons,List.length_nil];omega
theorem BW{l:List Qd}{i:Nat}(h:i<l.length):Zq (l.take (i+1))=Zq (l.take i)++Ui l[i]++ [10]:=by
 rw[zH h,RN];show _++(Ui l[i]++ [10]++ [])=_
 rw[zO,zM]
theorem Ws(l:List Qd)(i:Nat):(Zq (l.take i)).length<=(Zq l).length:=by
 have h:Zq l=Zq (l.take i)++Zq (l.drop i):=by rw[<-RN,yM]
 rw[h,zg];omega
theorem Eu:∀l:List Qd,80*l.length<=wL l
 | []=>by simp
 |q::l=>by
  have h1:=Eu l;unfold wL at h1⊢;rw[zI,List.sum_cons,List.length_cons];have h2:80<=wQ q:=by unfold wQ wT;omega
  omega
theorem ZjK{l m:List Qd}(h:l.Perm m):wL l=wL m:=(h.map wQ).sum_nat
theorem Ev{A:List LB}{c:List Int}(h:∀s,(b6 (c.getD (A.idxOf s) 0)).length<=5)(t:Tm):wT (JK A c t)<=wT t+5:=by
 unfold wT JK;split
 have:=h t.t;dsimp only;omega;omega
theorem Zls{A:List LB}{c:List Int}(h:∀s,(b6 (c.getD (A.idxOf s) 0)).length<=5)(l:List Qd):wL (ZC A l c)<=wL l+20*l.length:=by
 unfold ZC;rw[ZjK (vk _ _)]
 induction l with
 |nil=>simp[wL]
 |cons q l ih=>
  unfold wL at ih⊢;rw[zI,zI,zI,List.sum_cons,List.sum_cons,List.length_cons];have h1:=Ev h q.s;have h2:=Ev h q.p;have h3:=Ev h q.o;have h4:=Ev h q.g;have e:wQ (U4 A c q)<=wQ q+20:=by unfold wQ U4;dsimp only;omega
  omega
end Go.Our
namespace Go.Sx
open Go
def Mx.at(M:Mx)(N:Nat)(ro:Option (Nat×Nat))(J:Env):Mx:=⟨M.P,⟨M.C.T,N,M.C.S,ro⟩,M.w0,M.F,J,none⟩
def Qh(M:Mx)(res:List ResultVar)(K:SV->w9->Nat->Prop):Post
 | .normal,fr,O,nx=>r8 fr O fun O=>nO M.C fr O res fun vs=>K (r7 vs) O nx
 | .ret,fr,O,nx=>r8 fr O fun O=>nO M.C fr O res fun vs=>K (r7 vs) O nx
 | .exit _,_,_,_=>qc "exit"
def F1:List Nat->List SV->Fr->(Fr->Prop)->Prop
 | [],l8,fr,K=>match l8 with
   | []=>match iU (wu DS fr)with
     |true=>qc "round"
     |false=>K fr
   |_::_=>qc "round"
 |p::ps,l8,fr,K=>match l8 with
  |a::l8=>F1 ps l8 ((p,a)::fr) K
  | []=>qc "round"
def A1(j:Nat)(K:SV->w9->Nat->Prop):Post:=fun e fr O nx=>match wu j O with
 |some h=>match h with
  | .lp st li gw=>match st with
    | .busy=>match e with
      | .normal=>lW j (.lp .ready li gw) O fun O=>K (.bool true) O nx
      | .ret=>lW j (.lp (.left none) li gw) O fun O=>K (.bool false) O nx
      | .exit id=>lW j (.lp (.left (some id)) li gw) O fun O=>K (.bool false) O nx
    |_=>qc "record"
  |_=>qc "record"
 |none=>qc "record"
def RS(M:Mx)(j:Nat)(body:Code)(K:SV->w9->Nat->Prop):Post:=fun e fr O nx=>match e with
 | .normal=>match wu j O with
   |some h=>match h with
    | .lp st li gw=>match st with
      | .ready=>lW j (.lp .busy li gw) O fun O=>run M body fr O nx (A1 j K)
      |_=>qc "record"
    |_=>qc "record"
   |none=>qc "record"
 |_=>qc "assignment"
def l9:Fr->(Fr->Prop)->Prop
 | [],K=>K []
 |(t,v)::r,K=>match Nat.beq t DS with
  |true=>l9 r K
  |false=>l9 r fun r=>K ((t,v)::r)
def Ey(fr:Fr)(d:Nat)(K:Fr->Prop):Prop:=match wu DS fr with
 |some v=>match v with
  | .eE l=>K ((DS, .eE (.ptr (.loc d) 0 0 0::l))::fr)
  |_=>K ((DS, .eE [.ptr (.loc d) 0 0 0])::fr)
 |none=>K ((DS, .eE [.ptr (.loc d) 0 0 0])::fr)
def A2(j:Nat)(Qi:(Fr->Prop)->Prop)(Q:Post):SV->w9->Nat->Prop:=fun _ O nx=>match wu j O with
 |some h=>match h with
  | .lp st _ _=>match st with
    | .ready=>mb j O fun O=>Qi fun fr=>Q .normal fr O nx
    | .busy=>qc "record"
    | .left jump=>match jump with
      |none=>mb j O fun O=>Qi fun fr=>Q .ret fr O nx
      |some id=>mb j O fun O=>Qi fun fr=>Q (.exit id) fr O nx
  |_=>qc "record"
 |none=>qc "record"
section
variable {M:Mx}{J:Env}{w:World}{O:w9}{nx:Nat}
theorem G0.longer(h:G0 M){J:Env}(hp:M.η0<+:J){N:Nat}{ro:Option (Nat×Nat)}:G0 (M.at N ro J):=by
 intro b hh hb;have hb':cT M.C b=some hh:=by cases b<;>exact hb
 obtain⟨h1,h2⟩:=h b hh hb';obtain⟨x,hx,_⟩:=h1.lt;exact⟨h1.mono hp,fun k f=>h2 k (wq.less hp hx f)⟩
theorem uY.at(H:uY M J w O nx){N:Nat}{ro:Option (Nat×Nat)}:uY (M.at N ro J) J w O nx:=⟨zw,H.len,H.own,H.fr,H.qN.longer H.pre⟩
theorem uY.back{η0:Env}{N:Nat}{ro:Option (Nat×Nat)}(H:uY (M.at N ro η0) J w O nx)(hp:M.η0<+:η0)(hs:G0 M):uY M J w O nx:=⟨hp.trans H.pre,H.len,H.own,H.fr,hs⟩
theorem Z8Z(hT:qa M.P M.C.T){g:FuncId}{fn:Func}{c:Code}(hf:M.P.funcs[g]?=some fn)(hb:fn.body=some c)(N:Nat)(hN:fn.ntmps=N)(oc:N<=DS){args:List SV}(hlen:args.length<=N){res:List ResultVar}(hres:fn.results=res.toArray)
 {K:SV->w9->Nat->Prop} {vs:List Value} (H:uY M J w O nx) (hd:w6 J args vs) (h:run (M.at N none J) c (UY 0 args) O nx (Qh (M.at N none J) res K))
 {R:Ending->World->Prop} (hR:∀v r w' O' w8 η',J<+:η'->uY M η' w' O' w8->Den η' r v->K r O' w8->R (.returned v) w'):Calls M.P g ⟨vs⟩ w R:=by
 have hl:=ZU hd;refine callsIn_wide (n:=0)|>.1 (callsIn_of_wp_marks hf hb trivial ?_)
 have hm:wz (M.at N none J) J (UY 0 args) O nx {tmps:=⟨vs⟩++Array.replicate (fn.ntmps-(Array.mk vs).size) undef,defers:=[]} w:=by
  refine⟨H.at,?_,oc,CI (zP hlen oc),(fun l j h=>by cases h),?_⟩
  .simp only[vX,uh,hN,yl];show vs.length+(N-vs.length)=N
   omega
  .intro t sv ht;obtain⟨v,_,h1,h2⟩:=HP hd ht;have hlt:=(zf.1 h1).1;simp only[Nat.sub_zero]at h1 hlt;rw[y6,yd (by simpa using hlt)];have:(Array.mk vs)[t]?=some v:=by simpa using h1
   rw[this];exact h2
 refine Code.wpIn_mono ?_ (Y4 (M:=M.at N none J) hT c h J _ w hm)
 have fin:∀{η1:Env} {jR:Fr} {O1:w9} {qq:Nat} {a:Act} {w1:World},wz (M.at N none J) η1 jR O1 qq a w1->(r8 jR O1 fun O1=>nO (M.at N none J).C jR O1 res fun vs=>K (r7 vs) O1 qq)->
  LeavesInM Fence.wide 0 M.P fn a.tmps R a.defers .returning w1:=by
  intro η1 jR O1 qq a w1 jh hr;exact CH (M:=M.at N none J) hT hres jh hr fun w2 O2 v r H2 hd2 hk=>hR v r w2 O2 qq η1 H2.pre (H2.back H.pre H.qN) hd2 hk
 intro e a w hq;cases e with
 |normal=>obtain⟨η1,jR,O1,qq,jh,hq⟩:=hq;exact fin jh hq
 |ret=>obtain⟨η1,jR,O1,qq,jh,hq⟩:=hq;exact fin jh hq
 |exit id=>obtain⟨η1,jR,O1,qq,jh,hq⟩:=hq;exact hq.out.elim
 |goto l=>exact hq.elim
 |panic ch=>obtain⟨_,_,hn,_⟩:=hq;cases hn
 |outgrown=>exact hq.elim
def VO:List Nat->List Value->Array Value->Array Value
 |p::ps,v::vs,t=>VO ps vs (t.setIfInBounds p v)
 |_,_,t=>t
theorem Z90:∀(ps:List Nat) (vs:List Value) (t:Array Value),((ps.toArray.zip ⟨vs⟩).foldl (fun tmps (p:Nat×Value)=>tmps.setIfInBounds p.1 p.2) t)=VO ps vs t:=by
 intro ps vs t;have h1:(ps.toArray.zip ⟨vs⟩:Array (Nat×Value))=(ps.zip vs).toArray:=by simp
 rw[h1,<-uz];simp only
 induction ps generalizing vs t with
 |nil=>simp[VO]
 |cons p ps ih=>
  cases vs with
  |nil=>simp[VO]
  |cons v vs=>
   simp only[List.zip_cons_cons,List.foldl_cons,VO];exact ih vs (t.setIfInBounds p v) (by simp)
theorem RT:∀(ps:List Nat) (vs:List Value) (t:Array Value),(VO ps vs t).size=t.size
 | [],vs,t=>by simp[VO]
 |p::ps,[],t=>by simp[VO]
 |p::ps,v::vs,t=>by simp only[VO];rw[RT ps vs];simp
theorem RU{J:Env}:∀{ps:List Nat} {l8:List SV} {fr:Fr} {K:Fr->Prop} {vs:List Value} {t:Array Value},F1 ps l8 fr K->w6 J l8 vs->kY J t fr->(∀p∈ps,p<t.size)->∃fr',K fr'/\iU (wu DS fr')=false/\kY J (VO ps vs t) fr'/\vs.length=ps.length
 | [],l8,fr,K,vs,t,h,hd,ht,hp=>by
   simp only[F1]at h;split at h
   .split at h
    exact h.out.elim
    .rename_i hn;simp only[w6]at hd;subst hd;exact⟨fr,h,hn,ht,rfl⟩
   exact h.out.elim
 |p::ps,l8,fr,K,vs,t,h,hd,ht,hp=>by
  simp only[F1]at h;split at h
  .rename_i a l8;simp only[w6]at hd;obtain⟨u,us,rfl,h1,h2⟩:=hd;have hpt:=hp p (y5 ..)
   obtain⟨fr',h3,h4,h5,h6⟩:=RU (t:=t.setIfInBounds p u) h h2 (fun s sv hs=>by
    rw[Za]at hs;split at hs
    .rename_i e;subst e;injection hs with hs;subst hs
     simpa[y6,yW,hpt]using h1
    .rename_i e;rw[y6,yW,z7 (yX e),<-y6]
     exact ht s sv hs) (fun q hq=>by rw[Array.size_setIfInBounds];exact hp q (zV _ hq))
   exact⟨fr',h3,h4,h5,by simp[h6]⟩
  exact h.out.elim
theorem uY.record(H:uY M J w O nx){j:Nat}{st st':pT}{li:rI}{gw:Fr}(hj:wu j O=some (.lp st li gw)){e:kM}(he:J[j]?=some (some e)):
 ∃r,w.heap[e.g]?=some (.loop r)/\r.state=st.state/\r.pending=st.jump/\∀r':Loop,r'.state=st'.state->r'.pending=st'.jump->r'.params=r.params->r'.assign=r.assign->r'.body=r.body->r'.tmps=r.tmps->uY M J (w.putObj e.g (.loop r')) (qh j (.lp st' li gw) O) nx:=by
 have hs:=(H.own.1 j _ hj).1;simp only[uZ]at hs;obtain⟨e',r,h1,h2,h3,h4,h5,h6,h7,h8,h9,h10⟩:=hs;have gU:J[j]?=some (some e'):=h1;rw[he]at gU;injection gU with gU;injection gU with gU;subst gU;have hlt:=(zz.1 h3).1;refine⟨r,h3,h4,h5,fun r' q1 q2 q3 q4 q5 q6=>?_⟩;refine H.fu hj he (fun k hk=>World.putObj_heap_other hk) World.putObj_size rfl rfl rfl ?_;simp only[uZ];exact⟨e,r',h1,h2,World.putObj_heap_same hlt,q1,q2,by rw[q3];exact h6,by rw[q4];exact h7,by rw[q5];exact h8,by rw[q6];exact h9,by rw[q6];exact h10⟩
theorem bf.of(hT:qa M.P M.C.T){j:Nat}{li:rI}{gw:Fr}{args:List SV}{K:SV->w9->Nat->Prop}(hj:wu j O=some (.lp .ready li gw))(hps:li.ps.all (fun p=>Nat.blt p li.N)=true)(oc:Nat.ble li.N DS=true)
 (h:∀(η1:Env) (l:Nat),η1.length=nx->F1 li.ps args gw fun fr=>run (M.at li.N (some (l,j)) η1) li.cM fr O nx (RS (M.at li.N (some (l,j)) η1) j li.body K)):bf M j args O nx K:=by
 refine⟨fun J w vs e H hd he=>?_⟩;obtain⟨r,hr,hst,hpe,_⟩:=H.record (st':= .ready) hj he;have hs:=(H.own.1 j _ hj).1;simp only[uZ]at hs;obtain⟨e',r',h1,h2,h3,h4,h5,h6,h7,h8,h9,h10⟩:=hs;have gU:J[j]?=some (some e'):=h1;rw[he]at gU;injection gU with gU;injection gU with gU;subst gU;rw[hr]at h3;injection h3 with h3;injection h3 with h3;subst h3;obtain⟨fr,hrun,hnd,Ez,hlen⟩:=RU (h J e.g H.len) hd h10 (fun p hp=>by rw[h9];simpa[yS]using zR.1 hps p hp);have o9:r.params=li.ps.toArray:=by rw[<-h6]
 refine⟨r.fn,_,r.assign,r.body,run_yield hr (by rw[o9];simpa using hlen),?_⟩;rw[h7,h8];have pe:((r.params.zip ⟨vs⟩).foldl (fun tmps (x:Nat×Value)=>tmps.setIfInBounds x.1 x.2) r.tmps)=VO li.ps vs r.tmps:=by rw[o9];exact Z90 li.ps vs r.tmps
 have Qj:((r.params.zip ⟨vs⟩).foldl (fun tmps x=>match x with|(t,a)=>tmps.setIfInBounds t a) r.tmps)=VO li.ps vs r.tmps:=pe;rw[Qj];generalize s9:M.at li.N (some (e.g,j)) J=Mr at hrun;have RV:qa Mr.P Mr.C.T:=by subst s9;exact hT
 have hpx:Mr.px=none:=by subst s9;rfl
 have hPr:Mr.P=M.P:=by subst s9;rfl
 have hfr:Mr.wS=Fence.wide.inRound e.g:=by subst s9;rfl
 have hm:wz Mr J fr O nx {tmps:=VO li.ps vs r.tmps,defers:=[]} w:=by
  subst s9;refine⟨H.at,by rw[RT];exact h9,zT oc,(jf.no hnd).2 rfl,fun l' j' hl=>?_,Ez⟩;injection hl with hl;injection hl with ga nL;subst ga nL;exact⟨e,he,rfl⟩
 refine roundIn_of_wpIn trivial ?_;rw[<-hPr,<-hfr];refine Code.wpIn_mono ?_ (Y4 RV li.cM hrun J _ w hm);intro ex a1 w1 hq;cases ex with
 |exit id=>obtain⟨η1,jR,O1,qq,jh,hq⟩:=hq;exact hq.out.elim
 |ret=>obtain⟨η1,jR,O1,qq,jh,hq⟩:=hq;exact hq.out.elim
 |goto l=>exact hq.elim
 |panic ch=>obtain⟨_,_,hn,_⟩:=hq;rw[hpx]at hn;cases hn
 |outgrown=>exact hq.elim
 |normal=>
  obtain⟨η1,jR,O1,qq,jh,hq⟩:=hq;simp only[RS]at hq;split at hq
  case h_2=>exact hq.out.elim
  rename_i hh hj1;split at hq
  case h_2=>exact hq.out.elim
  rename_i st1 li1 A3;split at hq
  case h_2=>exact hq.out.elim
  rw[Jz]at hq;obtain⟨e1,he1,heg⟩:=jh.ro e.g j (by subst s9;rfl);obtain⟨r1,sq,hs1,hp1,F2⟩:=jh.heap.record (st':= .busy) hj1 he1;rw[heg]at sq F2;refine⟨_,run_beginRound sq hs1,?_⟩;have hm2:wz Mr η1 jR (qh j (.lp .busy li1 A3) O1) qq a1 (w1.putObj e.g (.loop {r1 with state:= .busy})):=⟨F2 _ rfl hp1 rfl rfl rfl rfl,jh.size,jh.cN,jh.defers,jh.ro,jh.frame⟩;refine Code.wpIn_mono ?_ (Y4 RV li.body hq η1 a1 _ hm2)
  have fin:∀{ex:Ex} {η2:Env} {cw:Fr} {O2:w9} {ng:Nat} {a2:Act} {w2:World} (jump:Option Code),wz Mr η2 cw O2 ng a2 w2->A1 j K ex cw O2 ng->(match ex with| .normal=>jump=none| .ret=>jump=some .ret| .exit id=>jump=some (.exit id))->
   ∃v w',(Instr.endRound e.g jump).run Mr.P w2= .ok v w'/\∃v',Ending.returned v= .returned v'/\∃r O' w8 η',J<+:η'/\uY M η' w' O' w8/\Den η' r v'/\K r O' w8:=by
   intro ex η2 cw O2 ng a2 w2 jump hm2 hq hj';unfold A1 at hq;split at hq
   case h_2=>exact hq.out.elim
   rename_i hh hj2;split at hq
   case h_2=>exact hq.out.elim
   rename_i st2 li2 z5Z;split at hq
   case h_2=>exact hq.out.elim
   obtain⟨e2,sr,Qk⟩:=hm2.ro e.g j (by subst s9;rfl);have hpre:J<+:η2:=by have:=hm2.heap.pre;subst s9;exact this
   have back:∀{w':World} {O':w9},uY Mr η2 w' O' ng->uY M η2 w' O' ng:=fun h=>by subst s9;exact h.back H.pre H.qN
   cases ex with
   |normal=>
    simp only at hj';subst hj';simp only[Jz]at hq;obtain⟨r2,tI,hs2,hp2,aS⟩:=hm2.heap.record (st':= .ready) hj2 sr;rw[Qk]at tI aS;exact⟨_,_,run_endRound none tI,_,rfl, .bool true,_,_,η2,hpre,back (aS _ rfl rfl rfl rfl rfl rfl),(by simp only[Den];rfl),hq⟩
   |ret=>
    simp only at hj';subst hj';simp only[Jz]at hq;obtain⟨r2,tI,hs2,hp2,aS⟩:=hm2.heap.record (st':= .left none) hj2 sr;rw[Qk]at tI aS;exact⟨_,_,run_endRound (some .ret) tI,_,rfl, .bool false,_,_,η2,hpre,back (aS _ rfl rfl rfl rfl rfl rfl),(by simp only[Den];rfl),hq⟩
   |exit id=>
    simp only at hj';subst hj';simp only[Jz]at hq;obtain⟨r2,tI,hs2,hp2,aS⟩:=hm2.heap.record (st':= .left (some id)) hj2 sr;rw[Qk]at tI aS;exact⟨_,_,run_endRound (some (.exit id)) tI,_,rfl, .bool false,_,_,η2,hpre,back (aS _ rfl rfl rfl rfl rfl rfl),(by simp only[Den];rfl),hq⟩
  intro ex a2 w2 oa;cases ex with
  |normal=>obtain⟨η2,cw,O2,ng,hm2,oa⟩:=oa;exact fin none hm2 oa rfl
  |ret=>obtain⟨η2,cw,O2,ng,hm2,oa⟩:=oa;exact fin (some .ret) hm2 oa rfl
  |exit id=>obtain⟨η2,cw,O2,ng,hm2,oa⟩:=oa;exact fin (some (.exit id)) hm2 oa rfl
  |goto l=>exact oa.elim
  |panic ch=>obtain⟨_,_,hn,_⟩:=oa;rw[hpx]at hn;cases hn
  |outgrown=>exact oa.elim
theorem A4{K:Fr->Prop}:∀{fr:Fr},l9 fr K->∃gw,K gw/\wu DS gw=none/\∀t v,wu t gw=some v->wu t fr=some v
 | [],h=>⟨[],h,rfl,fun t v h=>h⟩
 |(d,u)::r,h=>by
  unfold l9 at h;split at h
  .rename_i e;have e:=Zs e;obtain⟨gw,h1,h0,h2⟩:=A4 h;refine⟨gw,h1,h0,fun t v ht=>?_⟩;rw[Za];split
   .rename_i e2;rw[e2,e,h0]at ht;cases ht
   exact h2 t v ht
  .rename_i e;have e:=JA e;obtain⟨gw,h1,h0,h2⟩:=A4 h;refine⟨(d,u)::gw,h1,by rw[Za,z7 (yX e)];exact h0,fun t v ht=>?_⟩;rw[Za]at ht⊢;split
   rename_i e;rw[zh e]at ht;exact ht;rename_i e;rw[z7 e]at ht;exact h2 t v ht
theorem Zdk(hT:qa M.P M.C.T){gf g:FuncId}{fn:Func}{c:Code}{cap:List SV}(gP:∀args w,(callFunc gf args).run M.P w= .ok (.enter g args) w)(hf:M.P.funcs[g]?=some fn)(hb:fn.body=some c)(N:Nat)(hN:fn.ntmps=N)(oc:N<=DS)(hlen:cap.length+1<=N)(hres:fn.results= #[])
 {f:Operand} {Q:Post} {a a':Act} {η1:Env} {w1:World} {O1:w9} {n1 j l:Nat} (A5:∃vs,a.eval f= .func (.func gf) #[] ⟨vs⟩/\w6 η1 cap vs) (H1:uY M η1 w1 O1 n1) (hj:η1[j]?=some (some ⟨l,0,0⟩)) {Qi:(Fr->Prop)->Prop}
 (Ql:∀{K:Fr->Prop},Qi K->∃fr',K fr'/\∀η' w' O' w8,η1<+:η'->uY M η' w' O' w8->wz M η' fr' O' w8 a' w')
 (h:run (M.at N none η1) c (UY 0 (.yf (.loc j)::cap)) O1 n1 (Qh (M.at N none η1) [] (A2 j Qi Q))):
 ∃(d:Deferred) (F3:World) (f':FuncId) (args:Array Value) (w2:World),(resolve a.eval (rangeCall f l) 0).run M.P w1= .ok d F3/\(∀f',Target.leads M.P F3 d.target d.args=some f'->M.wS.fn f')/\(invoke d.target d.args).run M.P F3= .ok (.enter f' args) w2/\
  (M.wS.depth.isSome=true->1<=0)/\CallsIn M.wS (0-1) M.P f' args w2 (rangePost M.wS 0 M.P l (K2 M Q) a'):=by
 obtain⟨vs,hv,hd⟩:=A5;refine⟨{target:= .fn (.func gf) ⟨vs⟩,args:= #[.func (.yield l) #[] #[]]},w1,g, #[.func (.yield l) #[] #[]]++⟨vs⟩,w1,?_,fun f' _=>M.all f',?_,(fun h=>by cases h),?_⟩
 .simp only[resolve,hv];simp[go_sem]
 simp[invoke,go_sem,gP]
 .have hargs:(#[.func (.yield l) #[] #[]]++(⟨vs⟩:Array Value))=⟨Value.func (.yield l) #[] #[]::vs⟩:=by apply yC;simp
  rw[hargs]
  have fB:w6 η1 (.yf (.loc j)::cap) (Value.func (.yield l) #[] #[]::vs):=by
   simp only[w6,Den];exact⟨_,_,rfl,⟨_,hj,rfl⟩,hd⟩
  refine callsIn_wide.2 (Z8Z hT hf hb N hN oc (by simpa using hlen) (by simpa using hres) H1 fB h fun v r w' O' w8 η' hp H' hd' hk=>?_);unfold A2 at hk;split at hk
  case h_2=>exact hk.out.elim
  rename_i hh hj';split at hk
  case h_2=>exact hk.out.elim
  rename_i st li gw;have Qm:η'[j]?=some (some ⟨l,0,0⟩):=Env.wE (b:= .loc j) hp hj;obtain⟨r1,sq,hs1,hp1,_⟩:=H'.record (st':= .ready) hj' Qm;obtain⟨s1,p1,c1,c2,c3,c4,c5,c6⟩:=r1;simp only at sq hs1 hp1;subst hs1 hp1;have lg:uY M η' (w'.putObj l (.loop {state:= .exhausted,pending:=st.jump,fn:=c1,tmps:=c2,params:=c3,assign:=c4,body:=c5,defers:=c6})) (qy j O') w8:=H'.drop hj' Qm (fun k hk=>World.putObj_heap_other (by rintro rfl;exact hk (wq.own (b:= .loc j) Qm))) World.putObj_size rfl rfl rfl (zo _);split at hk
  .rw[XY]at hk;obtain⟨fr',h1,h2⟩:=Ql hk;exact⟨_,_,run_endLoop sq (by simp[pT.state]),⟨η',fr',_,w8,h2 η' _ _ _ hp lg,h1⟩⟩
  exact hk.out.elim
  .split at hk
   .rw[XY]at hk;obtain⟨fr',h1,h2⟩:=Ql hk;exact⟨_,_,run_endLoop sq (by simp[pT.state]),wpIn_ret ⟨η',fr',_,w8,h2 η' _ _ _ hp lg,h1⟩⟩
   .rw[XY]at hk;obtain⟨fr',h1,h2⟩:=Ql hk;exact⟨_,_,run_endLoop sq (by simp[pT.state]),wpIn_exit ⟨η',fr',_,w8,h2 η' _ _ _ hp lg,h1⟩⟩
theorem Zht{fr:Fr}{d:Nat}{K:Fr->Prop}(h:Ey fr d K):∃l,K ((DS, .eE (.ptr (.loc d) 0 0 0::l))::fr)/\∀{J:Env} {ds:List Deferred},jf J ds (wu DS fr)->fe J l ds:=by
 unfold Ey at h;split at h
 .rename_i v hv;split at h
  .rename_i l;exact⟨l,h,fun hd=>by rw[hv]at hd;exact hd⟩
  .rename_i hn;refine⟨[],h,fun hd=>?_⟩;rw[hv]at hd;have:iU (some v)=false:=by cases v<;>first|rfl|exact(hn _ rfl).elim
   rw[jf.no this]at hd;subst hd;rfl
 .rename_i hv;refine⟨[],h,fun hd=>?_⟩;rw[hv]at hd;have hd:_=[]:=hd;subst hd;rfl
theorem jK.of(hT:qa M.P M.C.T){f:Operand}{ps:Array Tmp}{cM body:Code}{fr:Fr}{Q:Post}{gf g:FuncId}{cap:List SV}{fn:Func}{c:Code}(gP:∀args w,(callFunc gf args).run M.P w= .ok (.enter g args) w)(hf:M.P.funcs[g]?=some fn)(hb:fn.body=some c)(N:Nat)(hN:fn.ntmps=N)
 (li:rI) (sw:li=⟨M.C.N,ps.toList,cM,body⟩) (hv:V2 fr f=some (.fn (.func gf) [] cap)) (hlen:Nat.ble (cap.length+1) N=true) (hres:fn.results= #[]) (hro:M.C.ro=none)
 (h:l9 fr fun gw=> ∀η1:Env,η1.length=nx+2->run (M.at N none η1) c (UY 0 (.yf (.loc (nx+1))::cap)) ((nx+1, .lp .ready li gw)::(nx, .eP [])::O) (nx+2) (Qh (M.at N none η1) [] (A2 (nx+1) (Ey fr nx) Q))) (oc:Nat.ble N DS=true:=by rfl):jK M f ps cM body fr O nx Q:=by
 obtain⟨gw,h,_,iN⟩:=A4 h;refine⟨fun J a w hm=>wpIn_rangeFunc fun A6 _=>?_⟩;have Qn:M.wS.round=none:=by simp[Mx.wS,hro]
 rw[Qn];obtain⟨rec,F4⟩:∃rec:Loop,rec={state:= .ready,pending:=none,fn:=A6,tmps:=a.tmps,params:=ps,assign:=cM,body,defers:=w.heap.size}:=⟨_,rfl⟩;have hl:=hm.heap.len;obtain⟨η1,hη1⟩:∃η1:Env,η1=J++ [some ⟨w.heap.size,0,0⟩]:=⟨_,rfl⟩
 have H1:uY M η1 (w.alloc (.deferred (some []))) ((nx, .eP [])::O) (nx+1):=by
  rw[hη1];refine hm.heap.alloc (w':=w.alloc (.deferred (some []))) (o:= .deferred (some [])) (h:= .eP []) rfl rfl rfl rfl 0 0 ?_;simp only[uZ];exact⟨⟨w.heap.size,0,0⟩,by simp[Env.get,<-hl],rfl,World.alloc_heap_new w _,(fun n hn=>nomatch hn),by simp⟩
 have ga:=H1.len;obtain⟨η2,hη2⟩:∃η2:Env,η2=η1++ [some ⟨w.heap.size+1,0,0⟩]:=⟨_,rfl⟩;have hsz:(w.alloc (.deferred (some []))).heap.size=w.heap.size+1:=World.size_alloc _ _;have hpre:J<+:η2:=by rw[hη2,hη1,zM];exact zC _ _
 have hj2:η2[nx+1]?=some (some ⟨w.heap.size+1,0,0⟩):=by rw[hη2,<-ga];simp
 have hd2:η2[nx]?=some (some ⟨w.heap.size,0,0⟩):=by
  rw[hη2,zn (by omega),hη1,<-hl];simp
 have H2:uY M η2 ((w.alloc (.deferred (some []))).alloc (.loop rec)) ((nx+1, .lp .ready li gw)::(nx, .eP [])::O) (nx+2):=by
  have:=H1.alloc (w':=(w.alloc (.deferred (some []))).alloc (.loop rec)) (o:= .loop rec) (h:= .lp .ready li gw) rfl rfl rfl rfl 0 0 (by
   rw[hsz,<-hη2];simp only[uZ];refine⟨_,rec,hj2,rfl,by rw[<-hsz];exact World.alloc_heap_new _ _,?_⟩;subst F4 sw
   exact⟨rfl,rfl,rfl,rfl,rfl,hm.size,fun t sv ht=>(hm.frame t sv (iN t sv ht)).mono hpre⟩)
  rw[hsz,<-hη2]at this;exact this
 have A5:∃vs,a.eval f= .func (.func gf) #[] ⟨vs⟩/\w6 η2 cap vs:=by
  have:=YA hm.frame hv;simp only[Den,w6]at this;obtain⟨us,vs,h1,rfl,h3⟩:=this;exact⟨vs,h1,h3.mono hpre⟩
 obtain⟨d,F3,f',args,w2,q1,q2,q3,q4,q5⟩:=Zdk (a':={a with defers:=[{target:= .collected w.heap.size,args:= #[]}]++a.defers}) hT gP hf hb N hN (zT oc) (zT hlen) hres A5 H2 hj2 (Qi:=Ey fr nx) (fun{K} hk=>by
  obtain⟨l,h1,h2⟩:=Zht hk;refine⟨_,h1,fun η' w' O' w8 hp H'=>⟨H',hm.size,hm.cN,?_,Us (hpre.trans hp) hm.ro,fun t sv ht=>?_⟩⟩
  .rw[Za,zh rfl];exact⟨⟨w.heap.size,0,0⟩,a.defers,Env.wE (b:= .loc nx) hp hd2,rfl,h2 (hm.defers.mono (hpre.trans hp))⟩
  .rw[Za]at ht;split at ht
   injection ht with ht;subst ht;simp only[Den]
   exact(hm.frame t sv ht).mono (hpre.trans hp)) (h η2 H2.len)
 refine⟨w.heap.size+1,[{target:= .collected w.heap.size,args:= #[]}],_,d,F3,f',args,w2,run_enterLoop_outer _ _ _ _ _,?_,q2,q3,q4,q5⟩;rw[F4]at q1;exact q1
end
theorem wh.weak{M:Mx}{O O1:w9}{nx n1:Nat}{r r1:SV}{Q:SV->w9->Nat->Prop}(h:∀J w v,uY M J w O nx->Den J r v->∃η',J<+:η'/\uY M η' w O1 n1/\Den η' r1 v)(hf:wh M O1 n1 r1 Q):wh M O nx r Q:=
 ⟨fun J w v H hd=>let⟨η1,h1,h2,h3⟩:=h J w v H hd;hf.out η1 w v h2 h3⟩
theorem wh.nil{M:Mx}{O:w9}{nx:Nat}{Q:SV->w9->Nat->Prop}(es:Nat)(hf:wh M ((nx, .rows es [])::O) (nx+1) (.sl (.loc nx) 0 es 0 none) Q):wh M O nx (.val (.slice none 0 0)) Q:=by
 refine wh.weak (fun J w v H hd=>?_) hf;have hnew:(J++ [none])[nx]?=some none:=by rw[zx (by rw[H.len];omega),H.len];simp
 refine⟨J++ [none],zC _ _,H.push none (fun _ _=>rfl) (zo _) rfl rfl rfl (zo _) (.inl ⟨hnew,rfl⟩) (fun k f=>(wq.none (b:= .loc nx) hnew f).elim) (fun k f=>(wq.none (b:= .loc nx) hnew f).elim),?_⟩;simp only[Den]at hd⊢;exact .inl ⟨hnew,hd.1,trivial⟩
theorem wh.qC{M:Mx}{O:w9}{nx:Nat}{r:SV}{Q:SV->w9->Nat->Prop}(i j es:Nat){row row':List SV}(hi:wu i O=some (.box row))(hr:mY nx es j row=some row')(hf:wh M ((nx, .rows es [])::qh i (.box row') O) (nx+1) r Q):wh M O nx r Q:=
 wh.weak (fun J w v H hd=>let⟨η',h1,h2⟩:=H.qC hi hr;⟨η',h1,h2,Den.mono h1 hd⟩) hf
def F5:List Nat->w9->(w9->Prop)->Prop
 | [],_,K=>K []
 |i::is,O,K=>match wu i O with
  |some h=>F5 is O fun r=>K ((i,h)::r)
  |none=>F5 is O K
def Km:w9->w9->(w9->Prop)->Prop
 | [],r,K=>K r
 |(i,h)::l,r,K=>Km l r fun r=>K ((i,h)::r)
theorem A7:∀{ts:List Nat} {O:w9} {K:w9->Prop},F5 ts O K->∃r,K r
 | [],O,K,h=>⟨_,h⟩
 |t::ts,O,K,h=>by
  simp only[F5]at h;split at h
  obtain⟨r,hr⟩:=A7 h;exact⟨_,hr⟩;exact A7 h
theorem RW:∀{l r:w9} {K:w9->Prop},Km l r K<->K (l++r)
 | [],r,K=>xK
 |(t,v)::l,r,K=>by simp only[Km,List.cons_append,RW]
theorem Yr{m es:Nat}{rs:List (List SV)}(h:Zp rs=true):Zi m (.rows es rs)=true:=by simp only[Zi,Z2 _ h]
theorem RX{m es:Nat}{σ:Nat->Nat}{rs:List (List SV)}(h:Zp rs=true):Zi m (wJ σ (.rows es rs))=true:=by rw[Zu _ (h:= .rows es rs) h];exact Yr h
section
variable {M:Mx}{fr:Fr}{O:w9}{nx:Nat}
theorem wj.jD{body:Code}{Q:Post}(hT:qa M.P M.C.T)(ks ko:List Nat){X:Type}(P:X->Prop)(rW:X->Fr)(Ox:X->w9)(n0:Nat)(J:X->Nat)(x0:X)(hP:P x0)
 (h:Kg ks fr fun gw=>F5 ko O fun O0=>(bS (rW x0) gw fun fr'=>Km (Ox x0) O0 fun O'=>w5 M fr O nx fr' O' n0)/\
   ∀x,P x->bS (rW x) gw fun jR=>Km (Ox x) O0 fun O1=>run M body jR O1 n0 fun e fr O nx=>match e with
    | .normal=> ∃x',P x'/\J x'<J x/\bS (rW x') gw fun fr'=>Km (Ox x') O0 fun O'=>w5 M fr O nx fr' O' n0
    |e=>Q e fr O nx):wj M body fr O nx Q:=by
 obtain⟨gw,h⟩:=B1 h;obtain⟨O0,h1,h2⟩:=A7 h;simp only[B2,RW]at h1 h2;exact wj.inv hT P (fun x=>(rW x++gw,Ox x++O0,n0)) J x0 hP h1 h2
theorem wj.qC{body:Code}{Q:Post}(i j es:Nat){row row':List SV}(hi:wu i O=some (.box row))(hr:mY nx es j row=some row')(k:wj M body fr ((nx, .rows es [])::qh i (.box row') O) (nx+1) Q):wj M body fr O nx Q:=
 wj.goes ⟨fun Y a w hm=>let⟨η',hp,H⟩:=hm.heap.qC hi hr;⟨η',H,hm.size,hm.cN,hm.defers.mono hp,Us hp hm.ro,fun t v ht=>(hm.frame t v ht).mono hp⟩⟩ k
end
end Go.Sx
namespace Go.Our
open Go.Sx
def fG(l:List Qd)(i:Nat):Option (Nat×Int):=if h:i<l.length then(if Xv l[i]≠0 then some (i,Xv l[i])else fG l (i+1))else none
termination_by l.length-i
theorem Fi{l:List Qd}{i:Nat}(h:l.length<=i):fG l i=none:=by unfold fG;rw[yK (by omega)]
theorem Fj{l:List Qd}{i:Nat}(h:i<l.length):fG l i=if Xv l[i]≠0 then some (i,Xv l[i])else fG l (i+1):=by
 conv=>lhs;unfold fG
 rw[yg h]
def pP(l:List Qd)(i:Nat):Option Nat:=if h:i<l.length then(if 0<=ZM (l[i-1]'(by omega)) l[i]then some i else pP l (i+1))else none
termination_by l.length-i
theorem EE{l:List Qd}{i:Nat}(h:l.length<=i):pP l i=none:=by unfold pP;rw[yK (by omega)]
theorem EF{l:List Qd}{i:Nat}(h:i<l.length):pP l i=if 0<=ZM (l[i-1]'(by omega)) l[i]then some i else pP l (i+1):=by
 conv=>lhs;unfold pP
 rw[yg h]
def ZK(l:List Qd):Nat×Int:=
 if 1048576<l.length then(0,2)else match fG l 0 with
 |some x=>x
 |none=>match pP l 1 with
  |some i=>(i,6)
  |none=>(0,0)
theorem AA:∀{l:List Qd} {i:Nat},(∀x,fG l i=some x->x.2≠0)
 |l,i=>by
  intro x hx;by_cases h:i<l.length
  .rw[Fj h]at hx;split at hx
   rename_i hc;injection hx with hx;subst hx;exact hc
   exact AA x hx
  rw[Fi (by omega)]at hx;cases hx
 termination_by l i=>l.length-i
theorem T0:∀{l:List Qd} {i:Nat},pP l i=none->∀k (hk:k<l.length),1<=k->i<=k->ZM (l[k-1]'(by omega)) l[k]<0
 |l,i=>by
  intro h k hk h1 hik;have hil:i<l.length:=by omega
  rw[EF hil]at h;split at h
  cases h
  .rename_i hc;rcases uC hik with h2|rfl
   exact T0 h k hk h1 (by omega);omega
 termination_by l i=>l.length-i
theorem Uj{l:List Qd}(h:(ZK l).2=0):kC ZM l/\l.length<=1048576:=by
 unfold ZK at h;split at h
 cases h
 .rename_i hl;cases hb:fG l 0 with
  |some x=>rw[hb]at h;exact(AA x hb h).elim
  |none=>
   rw[hb]at h;cases hf:pP l 1 with
   |some i=>rw[hf]at h;cases h
   |none=>exact⟨Z8X fun k hk h1=>T0 hf k hk h1 h1,by omega⟩
theorem T3:∀{l:List Qd} {i:Nat},fG l i=none->∀k (hk:k<l.length),i<=k->Xv l[k]=0
 |l,i=>by
  intro h k hk hik;rw[Fj (by omega)]at h;split at h
  cases h
  .rename_i hc;rcases uC hik with h2|rfl
   exact T3 h k hk (by omega);simpa using hc
 termination_by l i=>l.length-i
theorem Wv{l:List Qd}(h:(ZK l).2=0):∀q∈l,Xv q=0:=by
 unfold ZK at h;split at h
 cases h
 .cases hb:fG l 0 with
  |some x=>rw[hb]at h;exact(AA x hb h).elim
  |none=>
   intro q hq;obtain⟨k,hk,rfl⟩:=xZ.1 hq;exact T3 hb k hk (xO _)
theorem T4{s:List UInt8}(h:fZ s=0):s.length<=65536:=by
 unfold fZ at h;split at h
 omega
 .rename_i h1;have h1:dO s=0:=by omega
  unfold dO at h1;split at h1
  omega;omega
theorem ZfV{x:Tm}(h:wH x=0):x.t.length<=65536/\x.y.length<=65536/\x.l.length<=65536:=by
 unfold wH at h;split at h
 .split at h
  omega
  .rename_i hk hn;simp only[ne_eq,not_or,Decidable.not_not]at hn;rw[hn.1,hn.2];split at h
   exact⟨T4 h,by simp,by simp⟩
   .split at h
    omega;exact⟨by omega,by simp,by simp⟩
 .split at h
  .unfold dP at h;split at h
   omega;split at h
   omega;split at h
   rename_i h1;exact(h1 h).elim;split at h
   omega;rename_i h1 h2 h3 h4;refine⟨by omega,T4 (by simpa using h3),?_⟩;by_cases e:x.l=[]
   rw[e];simp
   .have:¬65536<x.l.length:=fun hl=>h4 ⟨e,hl⟩;omega
  omega
theorem T5{q:Qd}(h:Xv q=0):wH q.s=0/\wH q.p=0/\wH q.o=0/\(q.g=YN\/wH q.g=0)/\q.p.k=1:=by
 unfold Xv at h;split at h
 omega;split at h
 omega;split at h
 omega;split at h
 omega;split at h
 omega;rename_i h1 h2 h3 h4 h5;refine⟨by omega,by omega,by omega,?_,by omega⟩;split at h
 exact .inl ‹_›
 .split at h
  omega;exact .inr h
end Go.Our
namespace Go.Sx
open Go Go.Sort Go.Shelf Go.Proofs
theorem uY.later{M:Mx}{K:Env}{w w':World}{O:w9}{nx:Nat}(H:uY M K w O nx)(hf:jS w w' fun _=>False):uY M K w' O nx:=by
 have hk:∀{i h},wu i O=some h->∀k,wq K w (.loc i) h k->w'.heap[k]?=w.heap[k]?:=fun hi k f=>hf.block k ((H.own.1 _ _ hi).1.wY f) (fun h=>h);have hb:∀{i h},wu i O=some h->∀k,wq K w' (.loc i) h k->wq K w (.loc i) h k:=fun hi k f=>H.stands zw hi (hk hi) f;exact⟨H.pre,H.len,⟨fun i h hi=>⟨(H.own.1 i h hi).1.keep (hk hi),fun k f=>(H.own.1 i h hi).2 k (hb hi k f)⟩,fun i j h h' k hi hj hij f f'=>H.own.2 i j h h' k hi hj hij (hb hi k f) (hb hj k f')⟩,H.fr.trans hf (fun n h=>h.elim),H.qN⟩
theorem jS.grown{w w':World}(h:jS w w' fun _=>False):∃q os,w'=grow (w.drewN q) os:=by
 refine⟨w'.drawn-w.drawn,w'.heap.extract w.heap.size,?_⟩;have hd:=h.drawn
 have e1:w'.heap=w.heap++w'.heap.extract w.heap.size:=by
  apply xR;intro k;rcases y9 k w.heap.size with hk|hk
  rw[yd hk];exact h.block k hk (fun x=>x)
  .rw[Array.getElem?_append_right hk,Array.getElem?_extract];simp only[uU];split
   rw[show w.heap.size+(k-w.heap.size)=k by omega]
   .rename_i hn;exact xP (by omega)
 obtain⟨heap,tape,drawn,os,output⟩:=w;obtain⟨heap',tape',drawn',os',output'⟩:=w';have h1:=h.os;have h2:=h.tape;have h3:=h.output;simp only at h1 h2 h3 hd e1;subst h1 h2 h3;simp only[grow,World.drewN];rw[<-e1];congr 1;omega
section
variable {J:Type}[Inhabited J](enc:J->List Value)(k:Nat)
theorem Vw(w:World)(blk off m:Nat)(dk:Array J)(os:Array Obj):(sortWorldK enc k w blk off m dk os).heap=(mapBlock w blk (putCells id off (flatK enc k dk))).heap++os:=by
 simp[sortWorldK,grow,putRowK,putRow,mapBlock,Sort.ahead]
theorem Ww(w:World)(blk off m:Nat)(dk:Array J)(os:Array Obj):w.heap.size<=(sortWorldK enc k w blk off m dk os).heap.size:=by
 rw[Vw];simp[mapBlock]
theorem UV(w:World)(blk off m:Nat)(dk:Array J)(os:Array Obj){g:Nat}(hg:g<w.heap.size)(hne:g≠blk):(sortWorldK enc k w blk off m dk os).heap[g]?=w.heap[g]?:=by
 rw[Vw,yd (by simpa[mapBlock]using hg)];simp only[mapBlock,y7];rw[z7 (fun h=>hne h.symm)]
theorem Z5D(w:World)(blk off m:Nat)(dk:Array J)(os:Array Obj){c:Array Value}{T:TypeId}{fz:Nat×Nat}(h:w.heap[blk]?=some (.cells c T fz)):(sortWorldK enc k w blk off m dk os).heap[blk]?=some (.cells (putCells id off (flatK enc k dk) c) T fz):=by
 have hlt:=(zz.1 h).1;rw[Vw,yd (by simpa[mapBlock]using hlt)];simp only[mapBlock,y7,yR,h,Option.map_eq_map,Option.map_some,onCells]
end
theorem EK{w:World}{g i:Nat}{c:Array Value}{T:TypeId}{fz:Nat×Nat}(h:w.heap[g]?=some (.cells c T fz)):w.cell? ⟨g,i,none⟩=c[i]?:=by simp[World.cell?,h]
theorem Zdt{P:Program}{T:kE}{J:Type}[Inhabited J]{enc:J->List Value}{k:Nat}{row:J->List SV}{g:FuncId}{cf:J->J->Int}{blk off size:Nat}{w:World}(lE:T.jc.all (fun p=>iC p.2)=true)(hblk:∀h,wu blk T.jc≠some h)
 (hc:∀x y,uX P T g 0 [.agg (row x), .agg (row y)] [] [] (qd (.int .i64 (cf x y)))) (eg:∀args w,(callFunc g args).run P w= .ok (.enter g args) w)
 (hrow:∀K x,w6 K (row x) (enc x)/\∀u∈enc x,u.oneCell'=true) (hg:∀g h,wu g T.jc=some h->uZ [] w false (.qf g) h/\g<w.heap.size):CmpLays P g #[] enc k cf blk off size w:=by
 intro m os dk hdk x y
 have hg':∀g h,wu g T.jc=some h->uZ [] (sortWorldK enc k w blk off m dk os) false (.qf g) h/\g< (sortWorldK enc k w blk off m dk os).heap.size:=by
  intro g' h hh;obtain⟨h1,h2⟩:=hg g' h hh;have hne:g'≠blk:=fun e=>hblk h (e▸hh);refine⟨h1.keep fun n f=>?_,yL h2 (Ww enc k w blk off m dk os)⟩;have hlt:=h1.wY f;obtain⟨e,he,hf⟩:=f;cases he
  rcases hf with rfl|hf
  exact UV enc k w blk off m dk os hlt hne;exact(Hy (zR.1 lE _ (W9 hh)) hf).elim
 have:=uX.calls (hc x y) eg (vs:=[.agg (enc x).toArray, .agg (enc y).toArray]) (w:=sortWorldK enc k w blk off m dk os) (by
  simp only[w6,Den]
  exact⟨_,_,rfl,⟨_,rfl,(hrow [] x).1,(hrow [] x).2⟩,_,_,rfl,⟨_,rfl,(hrow [] y).1,(hrow [] y).2⟩,rfl⟩) hg'
 refine this.mono ?_;rintro e w' ⟨v,rfl,hv,hf⟩;simp only[Den]at hv;subst hv;exact⟨rfl,hf.grown⟩
theorem T7{J:Type}[Inhabited J]{enc:J->List Value}{k:Nat}(hk:∀x,(enc x).length=k){l:List J}{i j:Nat}{x:J}(hi:l[i]?=some x)(hj:j<k):(flatK enc k l.toArray)[i*k+j]! =(enc x)[j]!/\i*k+j<l.length*k:=by
 have hil:=(zf.1 hi).1
 have hlt:i*k+j<l.length*k:=by
  have:(i+1)*k<=l.length*k:=yo k hil;rw[yB]at this;omega
 refine⟨?_,hlt⟩;rw[get_flatK _ _ _ _ (by simpa using hlt)];have h1:(i*k+j)/k=i:=by rw[vA,Nat.mul_add_div (by omega),Nat.div_eq_of_lt hj,Nat.add_zero]
 have h2:(i*k+j)%k=j:=by rw[vA,Nat.mul_add_mod];exact xy hj
 rw[h1,h2];congr 1;have:=(zf.1 hi).2;simp[hil,this]
theorem Z7n{P:Program}{T:kE}{ρ:Ren}{J:Type}[Inhabited J](hT:qa P T)(L:SlLaysF0.n6 P ρ)(L':SlLaysF0.n6 P ρ){enc:J->List Value}{k:Nat}{row:J->List SV}{g:FuncId}{cf:J->J->Int}
 (aE:∀w,(isAgg (ρ.t 24)).run P w= .ok true w) (zE:∀w,(Go.sizeOf (ρ.t 24)).run P w= .ok k w) (hk:∀x,(enc x).length=k/\(row x).length=k) (AB:0<k) (hO:SWO (ltOf cf)) (hTo:∀x y,(ltOf cf) x y=false->(ltOf cf) y x=false->x=y)
 (lE:T.jc.all (fun p=>iC p.2)=true) (hc:∀x y,uX P T g 0 [.agg (row x), .agg (row y)] [] [] (qd (.int .i64 (cf x y)))) (eg:∀args w,(callFunc g args).run P w= .ok (.enter g args) w) (ef:∀args w,(callFunc (ρ.f 6) args).run P w= .ok (.enter (ρ.f 6) args) w)
 (hrow:∀K x,w6 K (row x) (enc x)/\∀u∈enc x,u.oneCell'=true) (Fp:∀K x vs,w6 K (row x) vs->vs=enc x) (l:List J) (hl:l.length<4611686018427387904):
 uX P T (ρ.f 6) 1 [.sl (.loc 0) 0 k l.length none, .fn (.func g) [] []] [(0, .rows k (l.map row))] [] (fun r O nx=>r= .wM []/\O=[(0, .rows k ((l.mergeSort fun x y=>!(ltOf cf) y x).map row))]/\nx=1):=by
 refine⟨fun M vs hP aF hF hS H hd=> .inl ⟨ρ.f 6,by rw[hP];exact ef _ _,?_⟩⟩;obtain⟨P',⟨T',N',S',mL⟩,w0,F,η0,r9⟩:=M;simp only at hP aF hF hS H hd⊢;subst hP aF;simp only[w6]at hd;obtain⟨v,us,rfl,hv,f,us',rfl,hf,rfl⟩:=hd;simp only[Den]at hf;obtain⟨ff,fc,rfl,Fq,iF⟩:=hf;simp only[w6]at Fq iF;subst Fq iF;have wA:=(H.own.1 0 _ rfl).1
 have AE:∀g h,wu g T'.jc=some h->uZ [] w0 false (.qf g) h/\g<w0.heap.size:=by
  intro g' h hh;have hp:V1 h=true:=zR.1 T'.bI _ (W9 hh);have h1:=H.shared (b:= .qf g') hh;refine⟨h1.plain hp,h1.wY ⟨⟨g',0,0⟩,rfl, .inl rfl⟩⟩
 simp only[uZ,Env.get]at wA;simp only[Den,Env.get]at hv
 have fin:∀w' (O':w9),jS w0 w' F->uZ η0 w' true (.loc 0) (.rows k ((l.mergeSort fun x y=>!(ltOf cf) y x).map row))->
  ∃r O' w8 η',(r=SV.wM []/\O'=[(0,Hp.rows k ((l.mergeSort fun x y=>!(ltOf cf) y x).map row))]/\w8=1)/\η0<+:η'/\uY ⟨P',⟨T',N',S',mL⟩,w0,F,η0,r9⟩ η' w' O' w8/\Den η' r (.tuple #[]):=by
  intro w' O' hfr hs;refine⟨_,_,_,η0,⟨rfl,rfl,rfl⟩,zw,⟨H.pre,H.len,⟨fun i h hi=>?_,fun i j h h' k hi hj hij f f'=>?_⟩,hfr,H.qN⟩,?_⟩
  .rw[Za]at hi;split at hi
   .rename_i e;subst e;injection hi with hi;subst hi;refine⟨hs,fun n f=>(H.own.1 0 _ rfl).2 n ?_⟩;obtain⟨e,h1,h2⟩:=f;exact⟨e,h1,h2⟩
   simp[wu]at hi
  .rw[Za]at hi hj;split at hi
   .rename_i e;subst e;split at hj
    rename_i e2;exact(hij e2.symm).elim;simp[wu]at hj
   simp[wu]at hi
  simp only[Den,w6];exact⟨[],rfl,rfl⟩
 rcases wA with⟨hn,hnil⟩|⟨e,arr,Tt,fz,he,hheap,hown,hcells⟩
 ·
  have hl0:l=[]:=by simpa using hnil
  subst hl0
  have Fs:v= .slice none 0 0:=by
   rcases hv with⟨_,h,_⟩|⟨e,o,h,_⟩
   exact h;rw[hn]at h;cases h
  subst Fs;refine(AnyF.slices_SortFunc_none L' none 0 _ w0).mono ?_;rintro e w' ⟨rfl,rfl⟩;refine⟨_,rfl,fin _ [] (jS.refl _ _) ?_⟩;simp only[uZ,Env.get];exact .inl ⟨hn,by simp⟩
 .obtain⟨hun,hsz,hle,hb0⟩:=hown trivial
  obtain⟨hel,Qx⟩:l.length<=e.cap/\v= .slice (some ⟨e.g,0,none⟩) l.length e.cap:=by
   rcases hv with⟨h,_⟩|⟨e',o,h,h2,h3,h4,h5⟩
   rw[he]at h;cases h
   .rw[he]at h;cases h;simp only[Option.getD_none,zy,Nat.sub_zero]at h2 h3;have:=h5 (.inr trivial);rw[hb0]at this;simp only[yT,Nat.add_zero]at this;subst this;exact⟨h3,h2⟩
  subst Qx;have hblk:e.g<w0.heap.size:=(zz.1 hheap).1
  have hcell:∀(i:Nat) (x:J) (j:Nat),l[i]?=some x->j<k->arr[i*k+j]?=some (enc x)[j]!:=by
   intro i x j hi hj;obtain⟨h1,h2⟩:=hcells i (row x) (by rw[z6,hi];rfl);have hlen:=(hk x).2;have rM:=(hk x).1
   have hall:∀(j:Nat) (c:SV),(row x)[j]?=some c->∃u,((List.range k).map fun j=>arr.getD (i*k+j) undef)[j]?=some u/\Den η0 c u:=by
    intro j c hj;have hjk:j<k:=by have:=(zf.1 hj).1;omega
    obtain⟨u,h3,h4,h5⟩:=h2 j c hj;rw[hb0,zy]at h3;refine⟨u,?_,h5⟩;rw[z6,yG hjk];simp only[Option.map_some,y6,h3,Option.getD_some]
   have hvs:=Fp η0 x _ (DM (by simp[hlen]) hall);have HA:j< (row x).length:=by omega
   obtain⟨u,h3,h4,h5⟩:=h2 j ((row x)[j]) (z1 HA);rw[hb0,zy]at h3
   have h6:(enc x)[j]! =u:=by
    rw[<-hvs]
    have:((List.range k).map fun j=>arr.getD (i*k+j) undef)[j]?=some u:=by
     rw[z6,yG hj];simp only[Option.map_some,y6,h3,Option.getD_some]
    rw[uq,this];rfl
   rw[h3,h6]
  have split:∀t,t<l.length*k->∃x,l[t/k]?=some x/\t%k<k/\t/k*k+t%k=t:=by
   intro t ht;have h1:t/k<l.length:=Nat.div_lt_of_lt_mul (by rw[vA];exact ht);exact⟨l[t/k],z1 h1,uQ _ AB,by rw[vA];exact Nat.div_add_mod t k⟩
  have hsize:l.length*k<=arr.size:=by rw[hsz];exact yo _ hel
  have hH:HoldsK enc k w0 e.g 0 l.toArray:=by
   intro t ht;rw[size_flatK,yl]at ht;obtain⟨x,h1,h2,h3⟩:=split t ht;have h4:=hcell _ x _ h1 h2;have h5:=(T7 (enc:=enc) (fun x=>(hk x).1) h1 h2).1;rw[h3]at h4 h5;refine⟨by rw[zy,EK hheap,h4,h5];rfl,?_⟩;have:=hun t (by omega);simp only[World.frozen?,hheap,zy];simpa using this
  have hFg:F e.g:=by
   rcases(H.own.1 0 _ rfl).2 e.g ⟨e,he, .inl rfl⟩with h|h
   exact h
   .have h:w0.heap.size<=e.g:=h;omega
  have jm:CmpLays P' g #[] enc k cf e.g 0 l.toArray.size w0:=Zdt lE (fun h hh=>(H.qN (.qf e.g) h hh).2 e.g ⟨⟨e.g,0,0⟩,rfl, .inl rfl⟩|>.2 hFg) hc eg (fun K x=>hrow K x) AE;have hmain:=AnyQ.slices_SortFunc_total L k aE zE enc (fun x=>(hk x).1) (fun x u hu=>(hrow [] x).2 u hu) cf hO g #[] e.g 0 e.cap l.toArray w0 eg jm hH hblk (by simpa using hl) hTo;rw[yl]at hmain;refine hmain.mono ?_;rintro e1 w' ⟨rfl,n,os,rfl⟩;refine⟨_,rfl,fin _ [] ?_ ?_⟩
  .refine⟨rfl,rfl,rfl,?_,Ww ..,fun b hb Ft=>UV enc k w0 e.g 0 n _ os hb (fun e=>Ft (e▸hFg))⟩;simp[sortWorldK,grow,putRowK,putRow,mapBlock,Sort.ahead]
  .simp only[uZ,Env.get];have gE:(l.mergeSort fun x y=>!(ltOf cf) y x).length=l.length:=yw l;refine .inr ⟨e,_,Tt,fz,he,Z5D enc k w0 e.g 0 n _ os hheap,fun _=>⟨?_,?_,?_,hb0⟩,fun i fC hi=>?_⟩;simp only[putCells,xq];exact hun;simp only[putCells,xq];exact hsz;rw[zA,gE];exact hel
   .rw[z6]at hi;obtain⟨x,hx,rfl⟩:=zB.1 hi;refine⟨(hk x).2,fun j sv hj=>?_⟩;have hjk:j<k:=by have:=(zf.1 hj).1;have:=(hk x).2;omega
    obtain⟨h5,h6⟩:=T7 (enc:=enc) (fun x=>(hk x).1) hx hjk;rw[gE]at h6;obtain⟨u,h7,h8⟩:=Xx (hrow η0 x).1 hj;refine⟨u,?_,(hrow η0 x).2 u (zU h7),h8⟩;have hlt:i*k+j<arr.size:=by omega
    rw[hb0,zy];simp only[putCells,vC,yP hlt,Option.map_some,xO,xV,zy,size_flatK,yl,gE,h6,yR,Nat.sub_zero];rw[h5,uq,h7]
    rfl
end Go.Sx
namespace Go.Sx
open Go Go.Sort Go.Shelf Go.Proofs Go.Our
def Zh(s:List UInt8):List SV:=[.str s]
theorem Zt(l:List (List UInt8)):Zp (l.map Zh)=true:=ZH _ (fun _=>rfl) l
instance :PlF Zh:=⟨fun _=>rfl⟩
theorem leS(x y:List UInt8):decide (x<=y)=kK cmpL x y:=by
 show decide (x<=y)=!decide (Lib.compareBytes y x<0)
 rw[<-Wd,Go.Proofs.bytesLess_eq];rw[zZ];simp[List.not_lt]
theorem UK(w:World)(blk m:Nat)(d:Array (List UInt8))(os:Array Obj):(grow (putRow encStr (Sort.ahead w m) blk 0 d) os).heap=(mapBlock w blk (putCells encStr 0 d)).heap++os:=by simp[grow,putRow,mapBlock,Sort.ahead]
theorem Z7p(w:World)(blk m:Nat)(d:Array (List UInt8))(os:Array Obj):w.heap.size<=(grow (putRow encStr (Sort.ahead w m) blk 0 d) os).heap.size:=by
 rw[UK];simp[mapBlock]
theorem Z5E(w:World)(blk m:Nat)(d:Array (List UInt8))(os:Array Obj){g:Nat}(hg:g<w.heap.size)(hne:g≠blk):(grow (putRow encStr (Sort.ahead w m) blk 0 d) os).heap[g]?=w.heap[g]?:=by
 rw[UK,yd (by simpa[mapBlock]using hg)];simp only[mapBlock,y7];rw[z7 (fun h=>hne h.symm)]
theorem Z9l(w:World)(blk m:Nat)(d:Array (List UInt8))(os:Array Obj){c:Array Value}{T:TypeId}{fz:Nat×Nat}(h:w.heap[blk]?=some (.cells c T fz)):(grow (putRow encStr (Sort.ahead w m) blk 0 d) os).heap[blk]?=some (.cells (putCells encStr 0 d c) T fz):=by
 have hlt:=(zz.1 h).1;rw[UK,yd (by simpa[mapBlock]using hlt)];simp only[mapBlock,y7,yR,h,Option.map_eq_map,Option.map_some,onCells]
theorem Z9m{P:Program}{T:kE}{ρ:Ren}(L:Lays.n190 P ρ)(ef:∀args w,(callFunc (ρ.f 190) args).run P w= .ok (.enter (ρ.f 190) args) w)(l:List (List UInt8))(hl:l.length<4611686018427387904):
 uX P T (ρ.f 190) 1 [.sl (.loc 0) 0 1 l.length none] [(0, .rows 1 (l.map Zh))] [] (fun r O nx=>r= .wM []/\O=[(0, .rows 1 ((l.mergeSort (kK cmpL)).map Zh))]/\nx=1):=by
 refine⟨fun M vs hP aF hF hS H hd=> .inl ⟨ρ.f 190,by rw[hP];exact ef _ _,?_⟩⟩;obtain⟨P',⟨T',N',S',mL⟩,w0,F,η0,r9⟩:=M;simp only at hP aF hF hS H hd⊢;subst hP aF;simp only[w6]at hd;obtain⟨v,us,rfl,hv,rfl⟩:=hd;have wA:=(H.own.1 0 _ rfl).1;simp only[uZ,Env.get]at wA;simp only[Den,Env.get]at hv
 have fin:∀w' (O':w9),jS w0 w' F->uZ η0 w' true (.loc 0) (.rows 1 ((l.mergeSort (kK cmpL)).map Zh))->
  ∃r O' w8 η',(r=SV.wM []/\O'=[(0,Hp.rows 1 ((l.mergeSort (kK cmpL)).map Zh))]/\w8=1)/\η0<+:η'/\uY ⟨P',⟨T',N',S',mL⟩,w0,F,η0,r9⟩ η' w' O' w8/\Den η' r (.tuple #[]):=by
  intro w' O' hfr hs;refine⟨_,_,_,η0,⟨rfl,rfl,rfl⟩,zw,⟨H.pre,H.len,⟨fun i h hi=>?_,fun i j h h' k hi hj hij f f'=>?_⟩,hfr,H.qN⟩,?_⟩
  .rw[Za]at hi;split at hi
   .rename_i e;subst e;injection hi with hi;subst hi;refine⟨hs,fun n f=>(H.own.1 0 _ rfl).2 n ?_⟩;obtain⟨e,h1,h2⟩:=f;exact⟨e,h1,h2⟩
   simp[wu]at hi
  .rw[Za]at hi hj;split at hi
   .rename_i e;subst e;split at hj
    rename_i e2;exact(hij e2.symm).elim;simp[wu]at hj
   simp[wu]at hi
  simp only[Den,w6];exact⟨[],rfl,rfl⟩
 rcases wA with⟨hn,hnil⟩|⟨e,arr,Tt,fz,he,hheap,hown,hcells⟩
 .have hl0:l=[]:=by simpa using hnil
  subst hl0
  have Fs:v= .slice none 0 0:=by
   rcases hv with⟨_,h,_⟩|⟨e,o,h,_⟩
   exact h;rw[hn]at h;cases h
  subst Fs;refine(Any.slices_Sort_string_none L none 0 w0).mono ?_;rintro e w' ⟨rfl,rfl⟩;refine⟨_,rfl,fin _ [] (jS.refl _ _) ?_⟩;simp only[uZ,Env.get];exact .inl ⟨hn,by simp⟩
 .obtain⟨hun,hsz,hle,hb0⟩:=hown trivial
  obtain⟨hel,Qx⟩:l.length<=e.cap/\v= .slice (some ⟨e.g,0,none⟩) l.length e.cap:=by
   rcases hv with⟨h,_⟩|⟨e',o,h,h2,h3,h4,h5⟩
   rw[he]at h;cases h
   .rw[he]at h;cases h;simp only[Option.getD_none,zy,Nat.sub_zero]at h2 h3;have:=h5 (.inr trivial);rw[hb0]at this;simp only[yT,Nat.add_zero]at this;subst this;exact⟨h3,h2⟩
  subst Qx;have hblk:e.g<w0.heap.size:=(zz.1 hheap).1;have hsize:l.length<=arr.size:=by rw[hsz];omega
  have hcell:∀(i:Nat) (x:List UInt8),l[i]?=some x->arr[i]?=some (encStr x):=by
   intro i x hi;obtain⟨h1,h2⟩:=hcells i (Zh x) (by rw[z6,hi];rfl);obtain⟨u,h3,h4,h5⟩:=h2 0 (.str x) rfl;rw[hb0,zy,xC,Nat.add_zero]at h3;simp only[Den]at h5;rw[h3,h5];try rfl
  have hH:Holds encStr w0 e.g 0 l.toArray:=by
   intro t ht;rw[yl]at ht;have h4:=hcell t l[t] (z1 ht);refine⟨by rw[zy,EK hheap,h4];simp[ht],?_⟩;have:=hun t (by omega);simp only[World.frozen?,hheap,zy];simpa using this
  have hFg:F e.g:=by
   rcases(H.own.1 0 _ rfl).2 e.g ⟨e,he, .inl rfl⟩with h|h
   exact h
   .have h:w0.heap.size<=e.g:=h;omega
  have hmain:=Any.slices_Sort_string L e.g 0 e.cap l w0 hH hblk hl;rw[show(fun x y:List UInt8=>decide (x<=y))=kK cmpL from funext fun x=>funext fun y=>leS x y]at hmain;refine hmain.mono ?_;rintro e1 w' ⟨rfl,n,os,rfl⟩;refine⟨_,rfl,fin _ [] ?_ ?_⟩
  .refine⟨rfl,rfl,rfl,?_,Z7p ..,fun b hb Ft=>Z5E w0 e.g n _ os hb (fun e=>Ft (e▸hFg))⟩;simp[grow,putRow,mapBlock,Sort.ahead]
  .simp only[uZ,Env.get];have gE:(l.mergeSort (kK cmpL)).length=l.length:=yw l;refine .inr ⟨e,_,Tt,fz,he,Z9l w0 e.g n _ os hheap,fun _=>⟨?_,?_,?_,hb0⟩,fun i fC hi=>?_⟩;simp only[putCells,xq];exact hun;simp only[putCells,xq];exact hsz;rw[zA,gE];exact hel
   .rw[z6]at hi;obtain⟨x,hx,rfl⟩:=zB.1 hi;refine⟨rfl,fun j sv hj=>?_⟩;have hil:=(zf.1 hx).1
    match j,hj with
    |0,hj=>
     injection hj with hj;subst hj;refine⟨encStr x,?_,rfl,by simp only[Den];try rfl⟩;have hlt:i<arr.size:=by omega
     rw[hb0,zy,xC,Nat.add_zero];have K5:=(zf.1 hx).2;have Qy:i<l.length:=by omega
     simp only[putCells,vC,yP hlt,Option.map_some,xO,xV,zy,yl,gE,Qy,yR,Nat.sub_zero];rw[u6,y6];simp[hx]
end Go.Sx

namespace Go.Our
open Go.Sx
abbrev dw(n:Int):SV:= .int .i64 n
end Go.Our




namespace Go.Sx
open Go
structure qx(M:Mx)(O:w9)(nx:Nat)(O1:w9)(n1:Nat):Prop where
 out:∀Y w,uY M Y w O nx->∃η',Y<+:η'/\uY M η' w O1 n1
section
variable {M:Mx}{fr:Fr}{O O1 O2:w9}{nx n1 n2:Nat}
theorem qx.refl:qx M O nx O nx:=⟨fun Y w H=>⟨Y,zw,H⟩⟩
theorem qx.trans(h:qx M O nx O1 n1)(k:qx M O1 n1 O2 n2):qx M O nx O2 n2:=
 ⟨fun Y w H=>let⟨η1,p1,H1⟩:=h.out Y w H;let⟨η2,p2,H2⟩:=k.out η1 w H1;⟨η2,p1.trans p2,H2⟩⟩
theorem qx.goes(h:qx M O nx O1 n1):w5 M fr O nx fr O1 n1:=
 ⟨fun Y a w hm=>let⟨η',hp,H⟩:=h.out Y w hm.heap;⟨η',H,hm.size,hm.cN,hm.defers.mono hp,Us hp hm.ro,fun t v ht=>(hm.frame t v ht).mono hp⟩⟩
theorem qx.loop{body:Code}{Q:Post}(h:qx M O nx O1 n1)(k:wj M body fr O1 n1 Q):wj M body fr O nx Q:=wj.goes h.goes k
theorem qx.call{f:FuncId}{args:List SV}{K:SV->w9->Nat->Prop}(h:qx M O nx O1 n1)(k:CALL M f args O1 n1 K):CALL M f args O nx K:=CALL.weak h.out k
theorem qx.drawn{id:Nat}{ops:Array Oper}{Q:Post}(h:qx M O nx O1 n1)(k:wO M id ops fr O1 n1 Q):wO M id ops fr O nx Q:=
 ⟨fun Y a w hm=>let⟨η1,h1⟩:=(h.goes (fr:=fr)).out Y a w hm;k.out η1 a w h1⟩
theorem qx.fin{r:SV}{Q:SV->w9->Nat->Prop}(h:qx M O nx O1 n1)(k:wh M O1 n1 r Q):wh M O nx r Q:=
 ⟨fun Y w v H hd=>let⟨η1,p1,H1⟩:=h.out Y w H;k.out η1 w v H1 (hd.mono p1)⟩
theorem qx.Fv(i:Nat)(hi:wu i O=some (.mp [])):qx M O nx (qh i (.deep true 2 []) O) nx:=by
 refine⟨fun Y w H=>⟨Y,zw,?_⟩⟩;have wA:=(H.own.1 i _ hi).1;simp only[uZ]at wA;obtain⟨e,es,h1,h2,h3,h4,h5⟩:=wA;have hk:∀a b x,Yl [] a b=some x->False:=fun a b x h=>by simp[Yl]at h
 refine H.oE hi h1 (fun _ _=>rfl) rfl rfl rfl rfl ?_ (zo _) fun m f=>?_
 .simp only[uZ];refine⟨⟨⟨e,es,h1,h2,h3,h4,h5⟩,trivial⟩,fun e' h6=>?_⟩;rw[h1]at h6;injection h6 with h6;injection h6 with h6;subst h6
  exact⟨h2,fun o ho=>⟨fun a b es' rows h=>(hk a b _ h).elim,fun a b a' b' x x' v v' k h=>(hk a b _ h).elim⟩⟩
 .rcases f.of h1 with rfl|f
  exact wq.own h1
  .simp only[wZ]at f;obtain⟨o,a,b,x,v,_,h,_⟩:=f;exact(hk a b _ h).elim
theorem qx.qC(i j es:Nat){row row':List SV}(hi:wu i O=some (.box row))(hr:mY nx es j row=some row'):qx M O nx ((nx, .rows es [])::qh i (.box row') O) (nx+1):=⟨fun Y w H=>H.qC hi hr⟩
theorem qx.dZ(i r c k:Nat){mp:Bool}{es es' n:Nat}{rs:List (List DC)}{row:List DC}{rows:List (List SV)}(hi:wu i O=some (.deep mp es rs))(hr:rs[r]?=some row)(hc:row[c]?=some (.v (.sl (.loc k) 0 es' n none)))
 (hk:wu k O=some (.rows es' rows)) (hn:n<=rows.length) (hki:k≠i):qx M O nx (qy k (qh i (.deep mp es (q9 rs r c (.wZ es' (rows.take n)))) O)) nx:=⟨fun Y w H=>⟨Y,zw,H.dZ hi hr hc hk hn hki⟩⟩
theorem kF.at{J:Type}{r:Option (Nat×DC)}{A:Nat->DC->J->Prop}{B:J->Prop}{j:J}{i:Nat}{d:DC}(h:r=some (i,d))(k:A i d j):kF r A B j:=
 ⟨fun i' d' h'=>by rw[h]at h';simp only[zj,yF]at h';obtain⟨rfl,rfl⟩:=h';exact k,fun h'=>by rw[h]at h';cases h'⟩
theorem uY.sD{Y:Env}{w:World}(H:uY M Y w O nx){i:Nat}{h h':Hp}(hi:wu i O=some h)(hs:uZ Y w true (.loc i) h')(hk:∀n,wq Y w (.loc i) h' n->wq Y w (.loc i) h n):uY M Y w (qh i h' O) nx:=by
 have hin:∀{a g},wu a (qh i h' O)=some g->∃g0,wu a O=some g0/\uZ Y w true (.loc a) g/\∀n,wq Y w (.loc a) g n->wq Y w (.loc a) g0 n:=by
  intro a g ha;rw[Y0 _ _ _ _ (by rw[hi];rfl)]at ha;split at ha
  .rename_i e;subst e;injection ha with ha;subst ha;exact⟨_,hi,hs,hk⟩
  exact⟨g,ha,(H.own.1 _ _ ha).1,fun n f=>f⟩
 refine⟨H.pre,H.len,⟨fun a g ha=>?_,fun a b g g' n ha hb hab f f'=>?_⟩,H.fr,H.qN⟩
 .obtain⟨g0,h1,h2,h3⟩:=hin ha;exact⟨h2,fun n f=>(H.own.1 a g0 h1).2 n (h3 n f)⟩
 .obtain⟨g0,h1,_,h3⟩:=hin ha;obtain⟨g0',gU,_,HQ⟩:=hin hb;exact H.own.2 a b g0 g0' n h1 gU hab (h3 n f) (HQ n f')
def jI:List SV->List DC->Prop
 | [],[]=>True
 |s::r,d::ds=>(d= .v s\/(s= .val (.slice none 0 0)/\∃e,d= .wZ e []))/\jI r ds
 |_,_=>False
theorem jI.len:∀{r:List SV} {ds:List DC},jI r ds->ds.length=r.length
 | [],[],_=>rfl
 |s::r,d::ds,h=>by simp[jI.len h.2]
 | [],_::_,h=>h.elim
 |_::_,[],h=>h.elim
theorem jI.get:∀{r:List SV} {ds:List DC},jI r ds->∀{c:Nat} {d:DC},ds[c]?=some d->∃s,r[c]?=some s/\(d= .v s\/(s= .val (.slice none 0 0)/\∃e,d= .wZ e []))
 |s::r,d::ds,h,0,d',hc=>by simp at hc;subst hc;exact⟨s,rfl,h.1⟩
 |s::r,d::ds,h,c+1,d',hc=>by simpa using jI.get h.2 (by simpa using hc)
 | [],[],_,c,d,hc=>by simp at hc
 | [],_::_,h,_,_,_=>h.elim
 |_::_,[],h,_,_,_=>h.elim
def ER(rs:List (List SV))(ds:List (List DC)):Prop:=ds.length=rs.length/\∀(a:Nat) (row':List DC),ds[a]?=some row'->∃row,rs[a]?=some row/\jI row row'
theorem qx.bY(i:Nat){es:Nat}{rs:List (List SV)}(ds:List (List DC))(hi:wu i O=some (.rows es rs))(hd:ER rs ds):qx M O nx (qh i (.deep false es ds) O) nx:=by
 refine⟨fun Y w H=>⟨Y,zw,?_⟩⟩;have wA:qm Y w true (.loc i) es rs:=(H.own.1 i _ hi).1
 have kg:∀{a b x},Yl ds a b=some x->x.2=[]/\∃row,rs[a]?=some row/\row[b]?=some (.val (.slice none 0 0)):=by
  intro a b x hx;obtain⟨x1,x2⟩:=x;obtain⟨row',h1,h2⟩:=wN.1 hx;obtain⟨row,h3,h4⟩:=hd.2 a row' h1;obtain⟨s,h5,h6⟩:=h4.get h2;rcases h6 with h6|⟨rfl,e,h6⟩
  cases h6
  injection h6 with _ h6;exact⟨h6,row,h3,h5⟩
 have hcell:∀{e o a b x},Y.get (.loc i)=some (some e)->w.heap[e.g]?=some o->Yl ds a b=some x->e.base=0/\x.2=[]/\ZJ o es a b=some (.slice none 0 0):=by
  intro e o a b x he ho hx;obtain⟨h0,row,h1,h2⟩:=kg hx;rcases wA with⟨h3,_⟩|⟨e',arr,T,fz,h3,h4,h5,h6⟩
  rw[h3]at he;cases he;rw[h3]at he;injection he with he;injection he with he;subst he
  rw[h4]at ho;injection ho with ho;subst ho
  have hb:=(h5 rfl).2.2.2;obtain⟨v,h7,_,h8⟩:=(h6 a row h1).2 b _ h2;rw[hb,zy]at h7;exact⟨hb,h0,by rw[<-h8.1];exact h7⟩
 refine H.sD hi (uZ.jF (mp:=false) ?_ (fun h=>by cases h) fun e he=>?_) fun n f=>?_
 .rcases wA with⟨h3,h4⟩|⟨e',arr,T,fz,h3,h4,h5,h6⟩
  .refine .inl ⟨h3,zJ.1 ?_⟩;rw[Yc,hd.1,h4];rfl
  .refine .inr ⟨e',arr,T,fz,h3,h4,fun h=>by have:=h5 h;rwa [Yc,hd.1],fun a row' ha=>?_⟩;rw[Yb]at ha;obtain⟨bM,h7,rfl⟩:=zB.1 ha;obtain⟨row,h8,h9⟩:=hd.2 a bM h7;obtain⟨g1,g2⟩:=h6 a row h8;refine⟨by rw[zA,h9.len];exact g1,fun c sv hc=>?_⟩;rw[z6]at hc;obtain⟨d,h10,rfl⟩:=zB.1 hc;obtain⟨s,h11,h12⟩:=h9.get h10;obtain⟨v,k1,k2,k3⟩:=g2 c s h11;rcases h12 with rfl|⟨rfl,e,rfl⟩
   exact⟨v,k1,k2,k3⟩;exact⟨v,k1,k2,trivial⟩
 .have hb:e.base=0:=by
   rcases wA with⟨h3,_⟩|⟨e',arr,T,fz,h3,h4,h5,h6⟩
   rw[h3]at he;cases he;rw[h3]at he;injection he with he;injection he with he;subst he;exact(h5 rfl).2.2.2
  refine⟨hb,fun o ho=>⟨fun a b es' rows hk=>?_,fun a b a' b' x x' v v' k h1 h2 h3 h4 h5 h6=>?_⟩⟩
  .obtain⟨_,h1,h2⟩:=hcell he ho hk;simp only at h1;subst h1;exact⟨_,h2, .inl ⟨rfl,rfl⟩,by simp[Value.ownBlock]⟩
  .obtain⟨_,_,g2⟩:=hcell he ho h1;rw[g2]at h3;injection h3 with h3;subst h3;cases h5
 .obtain⟨e,he,f⟩:=f;rcases f with rfl|f
  exact wq.own he
  .simp only[wZ]at f;obtain⟨o,a,b,x,v,h1,h2,h3,h4⟩:=f;obtain⟨_,_,g2⟩:=hcell he h1 h2;rw[g2]at h3;injection h3 with h3;subst h3;cases h4
theorem qx.iK(i r c es':Nat){mp:Bool}{es:Nat}{rs:List (List DC)}{row:List DC}(hi:wu i O=some (.deep mp es rs))(hr:rs[r]?=some row)(hc:row[c]?=some (.v (.val (.slice none 0 0)))):qx M O nx (qh i (.deep mp es (q9 rs r c (.wZ es' []))) O) nx:=
 ⟨fun Y w H=>⟨Y,zw,H.iK hi hr hc⟩⟩
theorem qx.take(i r c:Nat){mp:Bool}{es es':Nat}{rs:List (List DC)}{row:List DC}{rows:List (List SV)}(hi:wu i O=some (.deep mp es rs))(hr:rs[r]?=some row)(hc:row[c]?=some (.wZ es' rows)):
 qx M O nx ((nx, .rows es' rows)::qh i (.deep mp es (q9 rs r c (.v (.sl (.loc nx) 0 es' rows.length none)))) O) (nx+1):=
 ⟨fun Y w H=>let⟨x,h⟩:=H.take hi hr hc;⟨Y++ [x],zC _ _,h⟩⟩
theorem ES{rs:List (List DC)}{r:Nat}{d:DC}{sv:SV}(h:rs[r]?=some [d]):(ZB (q9 rs r 0 (.v sv)))[r]?=some [sv]:=by
 rw[Yb,Ys,zh rfl,h];rfl
end
end Go.Sx
namespace Go.Proofs.YtlcbipfmodcedaaGreatDoor
open Go.Sx Go.Our
def XX(p:Pr):List SV:=[.str p.1, .str p.2]
theorem VS(l:List Pr):Zp (l.map XX)=true:=ZH _ (fun _=>rfl) l
instance :PlF XX:=⟨fun _=>rfl⟩
theorem ZlO{l z:List Pr}{i k:Nat}(h:i<l.length)(e:k=i):((l++z).map XX)[k]?=some (XX l[i]):=by subst e;rw[z6,zn h,z1 h];rfl
end Go.Proofs.YtlcbipfmodcedaaGreatDoor
namespace Go.Sx
open Go Go.Sort Go.Shelf Go.Proofs
theorem jS.QB{w0 w:World}{F:Nat->Prop}(h:jS w0 w F)(q:Nat)(os:Array Obj):jS w0 (grow (w.drewN q) os) F:=by
 refine⟨h.os,h.tape,h.output,zP h.drawn (Nat.le_add_right _ _),?_,fun k hk hF=>?_⟩;simp only[grow,World.drewN,vX];exact zP h.size (Nat.le_add_right _ _)
 .simp only[grow,World.drewN];rw[yd (yL hk h.size)];exact h.block k hk hF
theorem uY.QB{M:Mx}{K:Env}{w:World}{O:w9}{nx:Nat}(H:uY M K w O nx)(q:Nat)(os:Array Obj):uY M K (grow (w.drewN q) os) O nx:=by
 have hk:∀{i h},wu i O=some h->∀k,wq K w (.loc i) h k->(grow (w.drewN q) os).heap[k]?=w.heap[k]?:=fun hi k f=>by
  simp only[grow,World.drewN];exact yd ((H.own.1 _ _ hi).1.wY f)
 have hb:∀{i h},wu i O=some h->∀k,wq K (grow (w.drewN q) os) (.loc i) h k->wq K w (.loc i) h k:=fun hi k f=>H.stands zw hi (hk hi) f;exact⟨H.pre,H.len,⟨fun i h hi=>⟨(H.own.1 i h hi).1.keep (hk hi),fun k f=>(H.own.1 i h hi).2 k (hb hi k f)⟩,fun i j h h' k hi hj hij f f'=>H.own.2 i j h h' k hi hj hij (hb hi k f) (hb hj k f')⟩,H.fr.QB q os,H.qN⟩
theorem Zg1{P:Program}{T:kE}{ρ:Ren}(L:LaysM.n243 P ρ)(ef:∀args w,(callFunc (ρ.f 243) args).run P w= .ok (.enter (ρ.f 243) args) w){g:Nat}(A8:P.globalNamed "internal/strconv.uint64pow10" =some g)
 (AE:wu g T.jc=some (.ak (Lib.pow10Tab.map fun z=>Value.int .u64 z))) (n:Int) (h0: -9223372036854775808<=n) (h1:n<=9223372036854775807):
 uX P T (ρ.f 243) 0 [.int .i64 n] [] [] (qd (.str (Lib.itoa n))):=by
 refine⟨fun M vs hP aF hF hS H hd=> .inl ⟨ρ.f 243,by rw[hP];exact ef _ _,?_⟩⟩;obtain⟨P',⟨T',N',S',mL⟩,w0,F,η0⟩:=M;simp only at hP aF hF hS H hd⊢;subst hP aF;simp only[w6,Den]at hd;obtain⟨v,us,rfl,rfl,rfl⟩:=hd
 have htab:Lib.TabIs P' w0 "internal/strconv.uint64pow10" .u64 Lib.pow10Tab:=by
  have h:=H.shared (b:= .qf g) AE;simp only[uZ,Env.get]at h;obtain⟨e,he,hb,T,fz,hc⟩:=h;injection he with he;injection he with he;subst he;unfold Lib.TabIs World.var?;rw[A8];simp only[Option.bind_some];rw[hc]
 refine(Any.internal_strconv_Itoa L n h0 h1 w0 htab).mono ?_;rintro e w' ⟨rfl,q,os,rfl⟩;exact⟨_,rfl,_,_,_,η0,⟨rfl,rfl,rfl⟩,zw,H.QB q os,by simp only[Den]⟩
end Go.Sx

namespace Go.Our
open Go Go.Sx
section
variable {K:Type}{es:Nat}{f:K->List SV}
def kD(es:Nat)(f:K->List SV)(ss:List (List K)):List (List DC):=ss.map fun l=>[.wZ es (l.map f)]
theorem ZmF[p:PlF f]:∀ss:List (List K),YU (kD es f ss)=true
 | []=>rfl
 |l::ss=>by simp only[kD,zI,YU,JM,ia,ZH f p.h l,zD,vo];exact ZmF ss
instance [PlF f]{ss:List (List K)}:GO (kD es f ss):=⟨ZmF ss⟩
theorem Tn{ss:List (List K)}{i k:Nat}(h:i<ss.length)(hk:k=i):(kD es f ss)[k]?=some [.wZ es (ss[i].map f)]:=by
 subst hk;unfold kD;rw[z6,z1 h];rfl
theorem ZhJ{ss:List (List K)}{i k:Nat}{rows:List (List SV)}{n:Nat}{l:List K}(hk:k=i)(hr:rows.take n=l.map f):(kD es f ss).modify k (fun row=>row.set 0 (.wZ es (rows.take n)))=kD es f (ss.set i l):=by
 subst hk;rw[hr];unfold kD;apply yx;intro a;rw[yp,z6,z6,xH];by_cases ha:k=a
 .subst ha;rw[zh rfl];cases h:ss[k]? with
  |none=>rw[z7 (by rw[List.getElem?_eq_none_iff]at h;omega)];simp
  |some x=>rw[zh (zf.1 h).1];simp
 .rw[z7 ha];cases ss[a]?<;>simp[ha]
theorem To{ss:List (List K)}{i k:Nat}{sv:SV}(h:i<ss.length)(hk:k=i):(q9 (kD es f ss) k 0 (.v sv))[i]?=some [.v sv]:=by
 subst hk;rw[Ys,zh rfl,Tn h rfl];rfl
theorem ZjX{ss:List (List K)}{i k n:Nat}{sv:SV}(h:i<ss.length)(hk:k=i)(hn:n=ss[i].length):q9 (q9 (kD es f ss) k 0 (.v sv)) i 0 (.wZ es ((ss[i].map f).take n))=kD es f ss:=by
 subst hk hn;rw[jV,zi (by rw[zA];exact zo _)];apply yx;intro a;rw[Ys];by_cases ha:a=k
 subst ha;rw[zh rfl,Tn h rfl];rfl;rw[z7 ha]
end
end Go.Our
namespace Go.Sx
open Go
def qj(w:World)(v:Value)(es:Nat)(rs:List (List SV))(en:Option kM):Prop:=
 (∀x,en=some x->x.g<w.heap.size)/\∀(J:Env) (i:Nat),J[i]?=some en->Den J (.sl (.loc i) 0 es rs.length none) v/\uZ J w false (.loc i) (.rows es rs)
theorem qj.now{w w':World}{F:Nat->Prop}{v:Value}{es:Nat}{rs:List (List SV)}{en:Option kM}(h:qj w v es rs en)(hf:jS w w' F)(hF:∀k, ¬F k):qj w' v es rs en:=
 ⟨fun x hx=>yL (h.1 x hx) hf.size,fun J i hi=>⟨(h.2 J i hi).1,(h.2 J i hi).2.keep fun k f=>by
  obtain⟨e,he,f⟩:=f;rw[show J.get (.loc i)=some en from hi]at he;injection he with he;rcases f with rfl|f
  exact hf.block _ (h.1 e he) (hF _)
  exact f.elim⟩⟩
theorem Tp{J η':Env}(hp:J<+:η'){v:Value}{x:SV}(hx:Den η' x v):∀{pre post:List SV} {vs:List Value},w6 J (pre++ .val v::post) vs->w6 η' (pre++x::post) vs
 | [],post,vs,h=>by
   simp only[List.nil_append,w6]at h⊢;obtain⟨u,us,h1,h2,h3⟩:=h;simp only[Den]at h2;obtain⟨rfl,_⟩:=h2;exact⟨u,us,h1,hx,h3.mono hp⟩
 |c::pre,post,vs,h=>by
  simp only[List.cons_append,w6]at h⊢;obtain⟨u,us,h1,h2,h3⟩:=h;exact⟨u,us,h1,h2.mono hp,Tp hp hx h3⟩
section
variable {M:Mx}{O:w9}{nx:Nat}
theorem CALL.Fz{f:FuncId}{args:List SV}{K:SV->w9->Nat->Prop}{es:Nat}{rs:List (List SV)}{en:Option kM}{v:Value}(pre post:List SV)(hv:qj M.w0 v es rs en)(hF:∀k, ¬M.F k)(ha:args=pre++ .val v::post)
 (hc:∀η1,CALL ⟨M.P,{M.C with S:=(.loc nx, .rows es rs)::M.C.S},M.w0,M.F,η1,none⟩ f (pre++ .sl (.loc nx) 0 es rs.length none::post) O (nx+1) K):CALL M f args O nx K:=by
 refine⟨fun J w vs H hd=>?_⟩;subst ha;have hpre:J<+:J++ [en]:=zC _ _;have hnew:(J++ [en])[nx]?=some en:=by rw[zx (by rw[H.len];omega),H.len];simp
 obtain⟨h1,h2⟩:=hv.2 _ _ hnew
 have hold:∀{b h},cT M.C b=some h->∀k,wq (J++ [en]) M.w0 b h k->wq M.η0 M.w0 b h k:=fun{b h} hb k f=>by
  obtain⟨x,hx,_⟩:=(H.qN b h hb).1.lt;exact f.less (H.pre.trans hpre) hx
 have H1:uY ⟨M.P,{M.C with S:=(.loc nx, .rows es rs)::M.C.S},M.w0,M.F,J++ [en],none⟩ (J++ [en]) w O (nx+1):=by
  refine⟨zw,by simp[H.len],⟨fun i h hi=>⟨(H.own.1 i h hi).1.mono hpre,fun k f=>(H.own.1 i h hi).2 k (H.stands hpre hi (fun _ _=>rfl) f)⟩,
   fun i j h h' k hi hj hne f f'=>H.own.2 i j h h' k hi hj hne (H.stands hpre hi (fun _ _=>rfl) f) (H.stands hpre hj (fun _ _=>rfl) f')⟩,H.fr,fun b h hb=>?_⟩
  have old:cT M.C b=some h->uZ (J++ [en]) M.w0 false b h/\∀k,wq (J++ [en]) M.w0 b h k->k<M.w0.heap.size/\¬M.F k:=fun hb=>
   ⟨(H.qN b h hb).1.mono (H.pre.trans hpre),fun k f=>(H.qN b h hb).2 k (hold hb k f)⟩
  cases b with
  |qf g=>exact old hb
  |loc i=>
   simp only[cT,jd,ow]at hb;cases hi:Nat.beq i nx with
   |false=>rw[hi]at hb;exact old hb
   |true=>
    rw[hi]at hb;injection hb with hb;subst hb;have hi:=Zs hi;subst hi;refine⟨h2,fun k f=>⟨?_,hF k⟩⟩;obtain⟨e,he,f⟩:=f;rw[show(J++ [en]).get (.loc i)=some en from hnew]at he;injection he with he;have:=hv.1 e he;rcases f with rfl|f
    exact this;exact f.elim
 refine((hc (J++ [en])).out (J++ [en]) w vs H1 (Tp hpre h1 hd)).mono fun v' w' ⟨r,O',w8,η',h3,h4,h5,h6⟩=>?_;exact⟨r,O',w8,η',hpre.trans h3,⟨(H.pre.trans hpre).trans h3,h4.len,h4.own,h4.fr,H.qN⟩,h5,h6⟩
variable {J:Env}{w:World}
end
end Go.Sx


namespace Go.Our
open Go Go.Sx
def AW:Qd:=⟨YN,YN,YN,YN⟩
def nY(A:List LB)(l:List Qd)(k x:Nat):List Nat:=(List.range k).filter fun j=>decide (A.getD x []∈Zx (l.getD j AW))
theorem AX(A:List LB)(l:List Qd)(x:Nat):nY A l l.length x=au A l x:=rfl
theorem ZlW{A:List LB}{l:List Qd}{k x j:Nat}(h:j∈nY A l k x):j<k:=yh.1 (uo.1 h).1
theorem D1(A:List LB)(l:List Qd)(k x:Nat):(nY A l k x).length<=k:=by
 have:=vD (fun j=>decide (A.getD x []∈Zx (l.getD j AW))) (List.range k);rw[yU]at this;exact this
def J8(A:List LB)(l:List Qd)(k:Nat)(T:List LB):List (List Nat):=(List.range A.length).map fun n=>nY A l k n++if A.getD n []∈T then [k]else []
theorem Vy(A:List LB)(l:List Qd)(k:Nat)(T:List LB):(J8 A l k T).length=A.length:=by simp[J8]
theorem AY{A:List LB}{l:List Qd}{k n:Nat}{T:List LB}(h:n<A.length):(J8 A l k T)[n]'(by rw[Vy];exact h)=nY A l k n++if A[n]∈T then [k]else []:=by
 simp[J8,h]
theorem Tx{A:List LB}{l:List Qd}{k:Nat}{T:List LB}:∀x∈J8 A l k T,x.length<=k+1:=by
 intro x hx;unfold J8 at hx;obtain⟨n,_,rfl⟩:=zY.1 hx;have:=D1 A l k n;rw[zg];split<;>simp<;>omega
theorem Ty(A:List LB)(l:List Qd)(k:Nat):J8 A l k []=(List.range A.length).map (nY A l k):=by simp[J8]
theorem Tz(A:List LB)(l:List Qd):(List.range A.length).map (nY A l 0)=List.replicate A.length []:=by
 rw[vE];refine⟨by simp,fun x hx=>?_⟩;obtain⟨n,_,rfl⟩:=zY.1 hx
 rfl
theorem Zg6{A:List LB}{l:List Qd}{k:Nat}{T:List LB}{s:LB}(h:s∈T):J8 A l k (T++ [s])=J8 A l k T:=by
 unfold J8;refine yO fun n _=>?_;congr 1
 have:A.getD n []∈T++ [s]<->A.getD n []∈T:=by
  rw[zW,zL];exact⟨fun h1=>h1.elim id (fun e=>e▸h), .inl⟩
 by_cases h2:A.getD n []∈T
 rw[zh h2,zh (this.2 h2)];rw[z7 h2,z7 (fun h3=>h2 (this.1 h3))]
theorem AZ{A:List LB}(hA:A.Nodup){l:List Qd}{k n:Nat}{T:List LB}(hn:n<A.length)(h:A[n]∉T):J8 A l k (T++ [A[n]])=(J8 A l k T).modify n (· ++ [k]):=by
 apply x9 (by rw[uA,Vy,Vy]);intro i h1 h2;rw[Vy]at h1;rw[List.getElem_modify,AY h1,AY h1];by_cases e:n=i
 .subst e;rw[zh rfl,z7 h,zh (by simp),zO]
 .rw[z7 e];congr 1;have hne:A[i]≠A[n]:=fun h3=>e ((xm hA).1 h3.symm)
  have:A[i]∈T++ [A[n]]<->A[i]∈T:=by
   rw[zW,zL];exact⟨fun h1=>h1.elim id (fun e=>(hne e).elim), .inl⟩
  by_cases h2:A[i]∈T
  rw[zh h2,zh (this.2 h2)];rw[z7 h2,z7 (fun h3=>h2 (this.1 h3))]
theorem TA{A:List LB}{l:List Qd}{k:Nat}{T:List LB}(hk:k<l.length)(h:∀s∈A,s∈T<->s∈Zx l[k]):J8 A l k T=(List.range A.length).map (nY A l (k+1)):=by
 unfold J8;refine yO fun n hn=>?_;have hn:n<A.length:=yh.1 hn;have hg:A.getD n []=A[n]:=by rw[zl,z1 hn];rfl
 have hl:l.getD k AW=l[k]:=by rw[zl,z1 hk];rfl
 unfold nY;rw[uu,List.filter_append,vJ,List.filter_nil,hl,hg];congr 1;have:=h A[n] (zm hn);by_cases h2:A[n]∈T
 rw[zh h2,zh (by simpa using this.1 h2)];rw[z7 h2,z7 (by simpa using fun h3=>h2 (this.2 h3))]
theorem ZdE{A:List LB}{l:List Qd}{k n:Nat}{T:List LB}(hn:n<A.length):(∃c,(J8 A l k T)[n]'(by rw[Vy];exact hn)=c++ [k])<->A[n]∈T:=by
 rw[AY hn];constructor
 .rintro⟨c,hc⟩;refine yE fun h=>?_;rw[z7 h,zO]at hc;have:k∈nY A l k n:=by rw[hc];simp
  have:=ZlW this;omega
 intro h;rw[zh h];exact⟨_,rfl⟩
end Go.Our
namespace Go.Sx
open Go
structure dD(J:Env)(w:World)(i es:Nat)(rs:List (List DC))(R:List (List SV)):Prop where
 sat:uZ J w false (.loc i) (.rows es R)
 len:R.length=rs.length
 cv:∀(r c:Nat) (row:List DC) (sv:SV),rs[r]?=some row->row[c]?=some (DC.v sv)->∃rw:List SV,R[r]?=some rw/\rw[c]?=some sv
 ck:∀(r c:Nat) (row:List DC) (es':Nat) (rows:List (List SV)),rs[r]?=some row->row[c]?=some (DC.wZ es' rows)->∃(rw:List SV) (v:Value),R[r]?=some rw/\rw[c]?=some (SV.val v)/\qz J w v es' rows
 lens:∀(r:Nat) (row:List DC) (rw:List SV),rs[r]?=some row->R[r]?=some rw->rw.length=row.length
def rD(arr:Array Value)(o:Nat):Nat->List DC->List SV
 |_,[]=>[]
 |j, .v sv::r=>sv::rD arr o (j+1) r
 |j, .wZ _ _::r=> .val (arr.getD (o+j) undef)::rD arr o (j+1) r
theorem D2(arr:Array Value)(o:Nat):∀(j:Nat) (r:List DC),(rD arr o j r).length=r.length
 |_,[]=>rfl
 |j, .v sv::r=>by simp[rD,D2 arr o (j+1) r]
 |j, .wZ _ _::r=>by simp[rD,D2 arr o (j+1) r]
theorem Ul(arr:Array Value)(o:Nat):∀(r:List DC) (j c:Nat),(rD arr o j r)[c]?=(r[c]?).map fun d=>match d with| .v sv=>sv| .wZ _ _=> .val (arr.getD (o+(j+c)) undef)
 | [],j,c=>by simp[rD]
 | .v sv::r,j,0=>rfl
 | .wZ _ _::r,j,0=>rfl
 | .v sv::r,j,c+1=>by
   simp only[rD,List.getElem?_cons_succ];rw[Ul arr o r (j+1) c];cases r[c]? with
   |none=>rfl
   |some d=>cases d<;>simp only[Option.map_some];rw[show j+1+c=j+(c+1)by omega]
 | .wZ _ _::r,j,c+1=>by
   simp only[rD,List.getElem?_cons_succ];rw[Ul arr o r (j+1) c];cases r[c]? with
   |none=>rfl
   |some d=>cases d<;>simp only[Option.map_some];rw[show j+1+c=j+(c+1)by omega]
theorem O3{J:Env}{w:World}{i es:Nat}{rs:List (List DC)}(d:uZ J w true (.loc i) (.deep false es rs)):∃R,dD J w i es rs R:=by
 simp only[uZ]at d;obtain⟨h1,h2⟩:=d;rcases h1 with⟨hn,h0⟩|⟨e,arr,T,fz,he,ho,hown,hc⟩
 .have h0:rs=[]:=by simpa[ZB]using h0
  subst h0;refine⟨[],?_,rfl,fun r c row sv h=>by simp at h,fun r c row es' rows h=>by simp at h,fun r row rw h=>by simp at h⟩;simp only[uZ];exact .inl ⟨hn,trivial⟩
 obtain⟨hb,hk⟩:=h2 e he;have hK:=hk _ ho
 have hrow:∀(r:Nat) (row:List DC),rs[r]?=some row->row.length=es/\wK J arr (e.base+r*es) (row.map ZT):=fun r row hr=>by
  have:=hc r (row.map ZT) (by unfold ZB;rw[z6,hr];rfl);rw[zA]at this;exact this
 have kg:∀(r c:Nat) (row:List DC) (es':Nat) (rows:List (List SV)),rs[r]?=some row->row[c]?=some (.wZ es' rows)->qz J w (arr.getD (e.base+r*es+c) undef) es' rows/\(arr.getD (e.base+r*es+c) undef).oneCell'=true/\arr[e.base+r*es+c]?=some (arr.getD (e.base+r*es+c) undef):=fun r c row es' rows hr bq=>by
  obtain⟨v,h3,h4,_⟩:=hK.sat r c es' rows (wN.2 ⟨row,hr,bq⟩);obtain⟨u,h5,h6,_⟩:=(hrow r row hr).2 c .any (by rw[z6,bq];rfl);simp only[ZJ]at h3;rw[hb,zy]at h5⊢;rw[h3]at h5;injection h5 with h5;subst h5;have:arr.getD (r*es+c) undef=v:=by rw[y6,h3];rfl
  rw[this];exact⟨h4,h6,h3⟩
 refine⟨(List.range rs.length).map fun r=>rD arr (e.base+r*es) 0 (rs.getD r []),?_,by simp,?_,?_,?_⟩
 .simp only[uZ];refine .inr ⟨e,arr,T,fz,he,ho,(fun h=>by cases h),fun r fC hr=>?_⟩;rw[z6]at hr;obtain⟨r',h3,rfl⟩:=zB.1 hr;obtain⟨h4,rfl⟩:=zf.1 h3;rw[yU]at h4;simp only[x6];have hg:rs[r]?=some (rs.getD r []):=by rw[zl,z1 h4];rfl
  obtain⟨h5,h6⟩:=hrow r _ hg;refine⟨by rw[D2,h5],fun c sv rO=>?_⟩;rw[Ul]at rO;obtain⟨d,h7,h8⟩:=zB.1 rO;cases d with
  |v s=>
   simp only at h8;subst h8;exact h6 c s (by rw[z6,h7];rfl)
  |wZ es' rows=>
   simp only at h8;subst h8;obtain⟨_,k2,k3⟩:=kg r c _ es' rows hg h7;rw[zy];exact⟨_,k3,k2,by simp only[Den];exact⟨trivial,k2⟩⟩
 .intro r c row sv hr rO;have h4:=(zf.1 hr).1;refine⟨_,by rw[z6,yG h4];rfl,?_⟩;rw[Ul,zl,hr,Option.getD_some,rO];rfl
 .intro r c row es' rows hr rO;have h4:=(zf.1 hr).1;refine⟨_,arr.getD (e.base+r*es+c) undef,by rw[z6,yG h4];rfl,?_,(kg r c row es' rows hr rO).1⟩;rw[Ul,zl,hr,Option.getD_some,rO];simp only[Option.map_some,zy]
 .intro r row fC hr h3;have h4:=(zf.1 hr).1;rw[z6,yG h4]at h3;injection h3 with h3;rw[<-h3,D2,zl,hr];rfl
theorem TC{J:Env}{w:World}{v:Value}{es:Nat}{rows:List (List SV)}(h:qz J w v es rows)(hp:Zp rows=true):∃en,qj w v es rows en:=by
 rcases h with⟨rfl,rfl⟩|⟨g,cap,arr,T,fz,rfl,k2,k3,k4,k5,k6⟩
 .refine⟨none,(fun x h=>by cases h),fun η' i hi=>⟨?_,?_⟩⟩;simp only[Den];exact .inl ⟨hi,trivial,rfl⟩;simp only[uZ];exact .inl ⟨hi,trivial⟩
 .refine⟨some ⟨g,0,cap⟩,fun x h=>?_,fun η' i hi=>⟨?_,?_⟩⟩;injection h with h;subst h;exact(zz.1 k2).1
  .simp only[Den];exact .inr ⟨⟨g,0,cap⟩,0,hi,by simp,by simpa using k5,zo _,fun _=>by simp⟩
  .simp only[uZ];refine .inr ⟨⟨g,0,cap⟩,arr,T,fz,hi,k2,(fun h=>by cases h),fun r row hr=>?_⟩;obtain⟨h1,h2⟩:=k6 r row hr;exact⟨h1,h2.plain (Je hp hr)⟩
def rE(M:Mx)(O:w9)(J:Env)(w:World)(i es:Nat)(R:List (List SV)):Mx:=⟨M.P,{M.C with S:=(.loc i, .rows es R)::(Ke M.C O).S},w,fun _=>False,J,none⟩
section
variable {M:Mx}{J:Env}{w:World}{O:w9}{nx:Nat}
theorem uY.raw(H:uY M J w O nx){i es:Nat}{R:List (List SV)}(hs:uZ J w false (.loc i) (.rows es R)):uY (rE M O J w i es R) J w [] nx:=by
 refine⟨zw,H.len,⟨fun i h hi=>by simp[wu]at hi,fun i j h h' n hi=>by simp[wu]at hi⟩,jS.refl _ _,fun b h hb=>?_⟩
 have go:Yk M.C O b=some h->uZ J w false b h/\∀k,wq J w b h k->k<w.heap.size/\¬False:=fun hb=>by
  have wA:=H.look hb;exact⟨wA,fun k f=>⟨wA.wY f,fun h=>h⟩⟩
 cases b with
 |qf g=>exact go (by rw[<-CV];exact hb)
 |loc j=>
  simp only[rE,cT,jd,ow]at hb;cases e:Nat.beq j i with
  |false=>rw[e]at hb;exact go (by rw[<-CV];exact hb)
  |true=>
   rw[e]at hb;injection hb with hb;subst hb;have:=Zs e;subst this;exact⟨hs,fun k f=>⟨hs.wY f,fun h=>h⟩⟩
structure bB(M:Mx)(f:FuncId)(args:List SV)(O:w9)(nx:Nat)(r:SV):Prop where
 out:∀J w vs,uY M J w O nx->w6 J args vs->jY M.P f ⟨vs⟩ w fun v w'=>Den J r v/\jS w w' fun _=>False
theorem uY.aV(H:uY M J w O nx){w':World}(hf:jS w w' fun _=>False):uY M J w' O nx:=by
 have hk:∀{i h},wu i O=some h->∀k,wq J w (.loc i) h k->w'.heap[k]?=w.heap[k]?:=fun hi k f=>hf.block k ((H.own.1 _ _ hi).1.wY f) (fun h=>h);have hb:∀{i h},wu i O=some h->∀k,wq J w' (.loc i) h k->wq J w (.loc i) h k:=fun hi k f=>H.stands zw hi (hk hi) f;exact⟨H.pre,H.len,⟨fun i h hi=>⟨(H.own.1 i h hi).1.keep (hk hi),fun k f=>(H.own.1 i h hi).2 k (hb hi k f)⟩,fun i j h h' k hi hj hij f f'=>H.own.2 i j h h' k hi hj hij (hb hi k f) (hb hj k f')⟩,H.fr.trans hf (fun n h=>h.elim),H.qN⟩
theorem CALL.quiet{f:FuncId}{args:List SV}{r:SV}{K:SV->w9->Nat->Prop}(h:bB M f args O nx r)(hK:K r O nx):CALL M f args O nx K:=
 ⟨fun J w vs H hd=>(h.out J w vs H hd).mono fun v w' ⟨h1,h2⟩=>⟨r,O,nx,J,zw,H.aV h2,h1,hK⟩⟩
theorem bB.raw{f:FuncId}{args:List SV}{r:SV}{i es:Nat}{rs:List (List DC)}(hi:wu i O=some (.deep false es rs))(hp:plain r=true)
 (h:∀J w R,uY M J w O nx->dD J w i es rs R->CALL (rE M O J w i es R) f args [] nx fun r' _ _=>r'=r):bB M f args O nx r:=by
 refine⟨fun J w vs H hd=>?_⟩;obtain⟨R,hR⟩:=O3 (H.own.1 i _ hi).1;refine((h J w R H hR).out J w vs (H.raw hR.sat) hd).mono fun v w' ⟨r',O',w8,η',_,h4,h5,h6⟩=>?_;subst h6;exact⟨Den.wG (σ:=id) (k:=0) (fun i x hi=>by omega) (XD 0 hp) (by rw[X9 _ hp];exact h5),h4.fr⟩
theorem CALL.Ky{G:World->Prop}{f:FuncId}{args:List SV}{K:SV->w9->Nat->Prop}{k:Nat}{wX:List SV}{Oc Sc:w9}{Q:SV->w9->Nat->Prop}(L:List Nat)(sp:cz G M.P M.C.T f k wX Oc Sc Q)(hG:∀J w,uY M J w O nx->G w)
 (hL:L.length=k) (cZ:∀i∈L,i<nx) (ha:args=qg (Zo L nx) wX) (hb:ZO k wX=true)
 (hO:∀p∈Oc,p.1<k/\wu (Zo L nx p.1) O=some (wJ (Zo L nx) p.2)/\Zi k p.2=true)
 (iS:∀j∈Zd Oc,∀j'∈Zd Oc,Zo L nx j=Zo L nx j'->j=j')
 (hS:∀p∈Sc,p.1<k/\Yk M.C O (.loc (Zo L nx p.1))=some (wJ (Zo L nx) p.2)/\Zi k p.2=true/\Zo L nx p.1∉ (Zd Oc).map (Zo L nx))
 (hK:∀r O' w8,Q r O' w8->K (wR (Zo L nx) r) (kJ (Zo L nx) O'++ZY ((Zd Oc).map (Zo L nx)) O) (nx+(w8-k))):CALL M f args O nx K:=by
 refine⟨fun J w vs H hd=>?_⟩;obtain⟨Mc,h1,h2,h3,h4,h5,h6,h7,h8⟩:=CL L hL cZ ha hb hO iS hS H hd;refine(h1▸h5▸(sp.out Mc vs h1 h2 h3 h4 h6 h7 (h5▸hG J w H))).mono ?_;rintro v w' ⟨r,O',w8,η',hq,hpre,H',eR⟩;obtain⟨η2,k1,k2,k3⟩:=h8 r O' w8 η' v w' hpre H' eR;exact⟨_,_,_,η2,k1,k2,k3,hK r O' w8 hq⟩
end
end Go.Sx
namespace Go.Sx
open Go Go.Sort Go.Shelf Go.Proofs Go.Our
def Yf(x:Nat):List SV:=[.int .i64 (x:Int)]
instance :PlF Yf:=⟨fun _=>rfl⟩
section
variable {M:Mx}{J:Env}{w:World}{O:w9}{nx:Nat}
theorem uY.other(H:uY M J w O nx){w':World}{j:Nat}{h0:Hp}(hj:wu j O=some h0){e:kM}(he:J[j]?=some (some e))(qY:∀k,k<w.heap.size->k≠e.g->w'.heap[k]?=w.heap[k]?)(hsz:w.heap.size<=w'.heap.size)
 (ho:w'.os=w.os) (ht:w'.tape=w.tape) (hp:w'.output=w.output) (eR:w.drawn<=w'.drawn):uY M J w' (qy j O) nx:=by
 have fi:wq J w (.loc j) h0 e.g:=wq.own he
 have back:∀{i h},wu i (qy j O)=some h->i≠j/\wu i O=some h:=fun{i h} hi=>by
  have hne:i≠j:=fun e=>by subst e;rw[Yh]at hi;cases hi
  exact⟨hne,by rw[<-XZ j O i hne];exact hi⟩
 have keep:∀{i h},wu i (qy j O)=some h->∀k,wq J w (.loc i) h k->w'.heap[k]?=w.heap[k]?:=fun{i h} hi k f=>
  qY k ((H.own.1 i h (back hi).2).1.wY f) fun hk=>H.own.2 i j h h0 k (back hi).2 hj (back hi).1 f (hk▸fi)
 have bk:∀{i h},wu i (qy j O)=some h->∀k,wq J w' (.loc i) h k->wq J w (.loc i) h k:=fun{i h} hi k f=>H.stands zw (back hi).2 (keep hi) f
 refine⟨H.pre,H.len,⟨fun i h hi=>⟨(H.own.1 i h (back hi).2).1.keep (keep hi),fun k f=>(H.own.1 i h (back hi).2).2 k (bk hi k f)⟩,fun i i' h h' k hi hi' hne f f'=>H.own.2 i i' h h' k (back hi).2 (back hi').2 hne (bk hi k f) (bk hi' k f')⟩,
  ⟨ho.trans H.fr.os,ht.trans H.fr.tape,hp.trans H.fr.output,zP H.fr.drawn eR,zP H.fr.size hsz,fun k hk hF=>?_⟩,H.qN⟩
 rw[qY k (yL hk H.fr.size) ?_];exact H.fr.block k hk hF
 .intro hke;subst hke;rcases H.G5 hj he with h1|h1
  exact hF h1;omega
end
section
variable {Y:Type}[Inhabited Y](enc:Y->Value)
theorem UO(w:World)(blk m:Nat)(d:Array Y):(putRow enc (Sort.ahead w m) blk 0 d).heap=(mapBlock w blk (putCells enc 0 d)).heap:=by simp[putRow,mapBlock,Sort.ahead]
theorem TD(w:World)(blk m:Nat)(d:Array Y){g:Nat}(hne:g≠blk):(putRow enc (Sort.ahead w m) blk 0 d).heap[g]?=w.heap[g]?:=by
 rw[UO];simp only[mapBlock,y7];rw[z7 (fun h=>hne h.symm)]
theorem Z9z(w:World)(blk m:Nat)(d:Array Y){c:Array Value}{T:TypeId}{fz:Nat×Nat}(h:w.heap[blk]?=some (.cells c T fz)):(putRow enc (Sort.ahead w m) blk 0 d).heap[blk]?=some (.cells (putCells enc 0 d c) T fz):=by
 rw[UO];simp only[mapBlock,y7,yR,h,Option.map_eq_map,Option.map_some,onCells]
theorem TE(w:World)(blk m:Nat)(d:Array Y):(putRow enc (Sort.ahead w m) blk 0 d).heap.size=w.heap.size:=by rw[UO];simp[mapBlock]
end
theorem TF(w:World)(os:Array Obj):jS w (grow w os) fun _=>False:=
 ⟨rfl,rfl,rfl,zo _,by simp[grow],fun k hk _=>by simp only[grow];exact yd hk⟩
theorem Zk2{Y:Type}{c:Y->Y->Int}(h:Pre c):SWO (ltOf c) where
 irrefl x:=by unfold ltOf;have:=h.refl x;simp;omega
 trans x y z h1 h2:=by
  unfold ltOf at*;simp only[yc]at*;exact h.pM h1 (by omega)
 ntrans x y z h1 h2:=by
  unfold ltOf at*;simp only[ym]at*;have a1:=h.anti x y;have a2:=h.anti y z;have a3:=h.anti x z;have:=h.trans z y x (by omega) (by omega);omega
theorem CALL.FC{M:Mx}{O:w9}{nx:Nat}{P:Program}{ρ:Ren}(L:SlLaysF.n6 P ρ)(ef:∀args w,(callFunc (ρ.f 6) args).run P w= .ok (.enter (ρ.f 6) args) w){g:FuncId}(eg:∀args w,(callFunc g args).run P w= .ok (.enter g args) w){f6:FuncId}(hf6:f6=ρ.f 6)(hP:M.P=P)
 {caps:List SV} {cf:Nat->Nat->Int} {l:List Nat} {n i len:Nat} {K:SV->w9->Nat->Prop} (hlen:len=l.length) (hi:wu i O=some (.rows 1 (l.map Yf))) (hn:∀x∈l,x<n) (hl:l.length<4611686018427387904) (hc:Pre cf)
 (hq:∀x y,x<n->y<n->bB M g ([.int .i64 (x:Int), .int .i64 (y:Int)]++caps) (qy i O) nx (.int .i64 (cf x y)))
 (hK:∀l':List Nat,l'.Perm l->l'.Pairwise (fun a b=>cf a b<=0)->K (.wM []) (qh i (.rows 1 (l'.map Yf)) O) nx):CALL M f6 [.sl (.loc i) 0 1 len none, .fn (.func g) [] caps] O nx K:=by
 subst hlen hP hf6;refine⟨fun J w vs H hd=> .inl ⟨ρ.f 6,ef _ _,?_⟩⟩;simp only[w6]at hd;obtain⟨v,us,rfl,hv,f,us',rfl,hf,rfl⟩:=hd;simp only[Den]at hf;obtain⟨ff,fc,rfl,Fq,iF⟩:=hf;simp only[w6]at Fq;subst Fq;have wA:=(H.own.1 i _ hi).1;simp only[uZ]at wA;simp only[Den]at hv;by_cases l0:l=[]
 .subst l0
  have ku:uY M J w (qh i (.rows 1 []) O) nx:=by
   have aux:∀(j:Nat) (h:Hp),wu j (qh i (.rows 1 []) O)=some h->wu j O=some h:=fun j h hj=>by
    rw[Y0 _ _ _ _ (by rw[hi];rfl)]at hj;split at hj
    rename_i e;subst e;rw[<-hj];exact hi;exact hj
   exact{pre:=H.pre,len:=H.len,qN:=H.qN,fr:=H.fr,own:=⟨fun j h hj=>H.own.1 j h (aux j h hj),fun j k h h' m hj hk=>H.own.2 j k h h' m (aux j h hj) (aux k h' hk)⟩}
  obtain⟨p,cap,rfl⟩:∃p cap,v= .slice p 0 cap:=by
   rcases hv with⟨_,h,_⟩|⟨e,o,_,h,_⟩
   exact⟨_,_,h⟩;exact⟨_,_,h⟩
  refine(AnyF.slices_SortFunc_none {L with} p cap _ w).mono ?_;rintro e w' ⟨rfl,rfl⟩;exact⟨_,rfl, .wM [],_,nx,J,zw,ku,by simp only[Den,w6];exact⟨[],rfl,rfl⟩,hK [] (vF _) List.Pairwise.nil⟩
 rcases wA with⟨_,h⟩|⟨e,arr,Tt,fz,he,hheap,hown,hcells⟩
 exact(l0 (by simpa using h)).elim;obtain⟨x0,hx0⟩:=List.exists_mem_of_ne_nil l l0;have hn0:0<n:=Nat.lt_of_le_of_lt (xO _) (hn x0 hx0);obtain⟨hun,hsz,hle,hb0⟩:=hown trivial;rw[zA]at hle
 obtain⟨hel,Qx⟩:l.length<=e.cap/\v= .slice (some ⟨e.g,0,none⟩) l.length e.cap:=by
  rcases hv with⟨h,_⟩|⟨e',o,h,h2,h3,h4,h5⟩
  rw[he]at h;cases h
  .rw[he]at h;cases h;simp only[Option.getD_none,zy,Nat.sub_zero]at h2 h3;have:=h5 (.inr trivial);rw[hb0]at this;simp only[yT,Nat.add_zero]at this;subst this;exact⟨h3,h2⟩
 subst Qx;have he':J[i]?=some (some e):=he;have hblk:e.g<w.heap.size:=(zz.1 hheap).1;have hsize:l.length<=arr.size:=by rw[hsz];omega
 haveI:Inhabited (Fin n):=⟨⟨0,hn0⟩⟩;obtain⟨enc,sE⟩:∃enc:Fin n->Value,enc=fun x=> .int .i64 ((x.val:Nat):Int):=⟨_,rfl⟩;obtain⟨lF,O4⟩:∃lF:List (Fin n),lF.map (·.val)=l:=⟨l.pmap (fun x h=>⟨x,h⟩) hn,by rw[List.map_pmap];simp⟩;have lY:lF.length=l.length:=by rw[<-O4,zA]
 have hcell:∀(t:Nat) (x:Nat),l[t]?=some x->arr[t]?=some (.int .i64 (x:Int)):=by
  intro t x ht;obtain⟨h1,h2⟩:=hcells t (Yf x) (by rw[z6,ht];rfl);obtain⟨u,h3,h4,h5⟩:=h2 0 (.int .i64 (x:Int)) rfl;rw[hb0,zy,xC,Nat.add_zero]at h3;simp only[Den]at h5;rw[h3,h5]
 have hH:Holds enc w e.g 0 lF.toArray:=by
  intro t ht;rw[yl]at ht;have h4:=hcell t (lF[t]).val (by rw[<-O4,z6,z1 ht];rfl);refine⟨by rw[zy,EK hheap,h4,sE];simp[ht],?_⟩;have:=hun t (by omega);simp only[World.frozen?,hheap,zy];simpa using this
 have hcmp:CmpLays1 M.P g ⟨fc⟩ enc (fun x y=>cf x.val y.val) e.g 0 lF.toArray.size w:=by
  intro m os dk hdk x y
  have H':uY M J (sortWorld enc w e.g 0 m dk os) (qy i O) nx:=by
   have h1:uY M J (putRow enc (Sort.ahead w m) e.g 0 dk) (qy i O) nx:=H.other hi he' (fun k _ hne=>TD enc w e.g m dk hne) (by rw[TE];exact zo _) rfl rfl rfl (by simp[putRow,Sort.ahead,mapBlock]);exact h1.aV (TF _ os)
  have hd':w6 J ([.int .i64 ((x.val:Nat):Int), .int .i64 ((y.val:Nat):Int)]++caps) (enc x::enc y::fc):=by
   simp only[List.cons_append,List.nil_append,w6,Den];exact⟨_,_,by rw[sE],rfl,_,_,rfl,rfl,iF⟩
  rcases(hq x.val y.val x.2 y.2).out J _ _ H' hd' with⟨g',h1,h2⟩|⟨v,w',h1,_⟩
  .rw[eg]at h1;injection h1 with h1 _;injection h1 with h1 _;subst h1;refine(show #[enc x,enc y]++(⟨fc⟩:Array Value)=⟨enc x::enc y::fc⟩by simp)▸h2.mono ?_;rintro e w' ⟨v,rfl,hv,hf⟩;simp only[Den]at hv;subst hv;exact⟨rfl,hf.grown⟩
  rw[eg]at h1;cases h1
 have hpc:Pre (fun x y:Fin n=>cf x.val y.val):=⟨fun a b=>hc.anti _ _,fun a b d=>hc.trans _ _ _⟩;have hmain:=Any.slices_SortFunc L enc (fun x=>by rw[sE];rfl) (fun x y:Fin n=>cf x.val y.val) (Zk2 hpc) g ⟨fc⟩ e.g 0 e.cap lF.toArray w eg hcmp hH hblk (by rw[yl,lY];exact hl);rw[yl,lY]at hmain;refine hmain.mono ?_;rintro e1 w' ⟨rfl,d',m,os,hP,hS,rfl⟩;obtain⟨p1,_,p3⟩:=hP;have p1:d'.size=l.length:=by rw[<-lY];simpa using p1
 have FD:(d'.toList.map (·.val)).Perm l:=by
  rw[<-O4];refine List.Perm.map _ ?_;have e1:d'.extract 0 l.length=d':=by rw[<-p1];simp
  have e2:lF.toArray.extract 0 l.length=lF.toArray:=by rw[<-lY];simp
  rw[e1,e2]at p3;exact p3
 have kZ:∀(t:Nat) (ht:t<l.length),d'[t]! =d'[t]'(by omega):=fun t ht=>by rw[getElem!_pos d' t (by omega)]
 have Fo:(d'.toList.map (·.val)).Pairwise fun a b=>cf a b<=0:=by
  rw[vY,yV];intro a b ha hb hab;simp only[Array.length_toList,p1]at ha hb;have:=hS a b (xO _) hab hb;rw[kZ a ha,kZ b hb]at this;unfold ltOf at this;have h2:=hc.anti (d'[b]'(by omega)).val (d'[a]'(by omega)).val;simp only[ym]at this;simp only[Array.getElem_toList];omega
 refine⟨_,rfl, .wM [],_,nx,J,zw,?_,by simp only[Den,w6];exact⟨[],rfl,rfl⟩,hK _ FD Fo⟩;refine uY.aV (w:=putRow enc (Sort.ahead w m) e.g 0 d') ?_ (TF _ os);refine H.fu hi he' (fun k hne=>TD enc w e.g m d' hne) (TE ..) rfl rfl rfl ?_ (by simp[putRow,Sort.ahead,mapBlock]);simp only[uZ];refine .inr ⟨e,_,Tt,fz,he,Z9z enc w e.g m d' hheap,fun _=>⟨?_,?_,?_,hb0⟩,fun t fC ht=>?_⟩;simp only[putCells,xq];exact hun;simp only[putCells,xq];exact hsz;rw[zA,zA,Array.length_toList,p1];exact hel
 .rw[z6,z6]at ht;obtain⟨x,hx,rfl⟩:=zB.1 ht;obtain⟨y,hy,rfl⟩:=zB.1 hx;refine⟨rfl,fun j sv hj=>?_⟩;have aq:t<l.length:=by have:=(zf.1 hy).1;rw[Array.length_toList,p1]at this;exact this
  match j,hj with
  |0,hj=>
   simp only[Yf,List.getElem?_cons_zero,zj]at hj;subst hj;refine⟨.int .i64 ((y.val:Nat):Int),?_,rfl,by simp only[Den]⟩;have hlt:t<arr.size:=by omega
   rw[hb0,zy,xC,Nat.add_zero];have FE:d'[t]! =y:=by rw[kZ t aq];have:=(zf.1 hy).2;rw[<-this,Array.getElem_toList]
   have FF:t<0+d'.size:=by omega
   simp only[putCells,vC,yP hlt,Option.map_some,xO,xV,zy,p1,aq,yR,Nat.sub_zero,FE,sE]
end Go.Sx
namespace Go.Our
section
variable {c:Nat->Nat->Int}{o:List Nat}{n:Nat}
def kq(c:Nat->Nat->Int)(o:List Nat)(n i:Nat):List Int:=(List.range n).map fun x=>if x∈o.take i then(qG c o x:Int)else 0
theorem Ju(i:Nat):(kq c o n i).length=n:=by simp[kq]
theorem Od:kq c o n 0=List.replicate n 0:=by
 unfold kq;rw[vE];simp
theorem Oe(h:o.Perm (List.range n)):kq c o n o.length=(List.range n).map fun x=>(qG c (List.range n) x:Int):=by
 unfold kq;refine yO fun x hx=>?_;rw[zX,zh (h.mem_iff.2 hx),Zfj h]
theorem KB(hn:o.Nodup){i:Nat}(hi:i<o.length)(hx:o[i]<n){v:Int}(hv:v=(qG c o o[i]:Int)):(kq c o n i).set o[i] v=kq c o n (i+1):=by
 subst hv;apply x9 (by rw[xE,Ju,Ju]);intro j h1 h2;rw[Ju]at h2;rw[vK];have e1:∀y (h:j< (kq c o n y).length),(kq c o n y)[j]=if j∈o.take y then(qG c o j:Int)else 0:=fun y h=>by simp[kq]
 rw[e1,e1,zH hi];by_cases e:o[i]=j
 rw[zh e,zh (by rw[<-e];exact xU _ (vm _)),e]
 .rw[z7 e]
  have:j∈o.take i++ [o[i]]<->j∈o.take i:=by
   rw[zW,zL];exact⟨fun h=>h.elim id (fun h=>(e h.symm).elim), .inl⟩
  by_cases h3:j∈o.take i
  rw[zh h3,zh (this.2 h3)];rw[z7 h3,z7 (fun h4=>h3 (this.1 h4))]
theorem Og{i j:Nat}(hj:j<i)(hl:j<o.length)(hx:o[j]<n):(kq c o n i)[o[j]]?=some (qG c o o[j]:Int):=by
 have hm:o[j]∈o.take i:=by
  rw[xZ];exact⟨j,by rw[zu];omega,by rw[vz]⟩
 unfold kq;rw[z6,yG hx,Option.map_some,zh hm]
theorem Oh(h:Pre c)(hs:o.Pairwise fun a b=>c a b<=0)(hi:0<o.length):qG c o o[0]=0:=by
 rw[BR h hs hi];rfl
theorem Oi(h:Pre c)(hs:o.Pairwise fun a b=>c a b<=0){j:Nat}(hi:j+1<o.length):qG c o o[j+1]=if c o[j] o[j+1]=0 then qG c o o[j]else j+1:=by
 rw[BR h hs hi,BR h hs (show j<o.length by omega)];have h1:o.getD j default=o[j]:=by rw[zl,z1 (by omega)];rfl
 have h2:o.getD (j+1) default=o[j+1]:=by rw[zl,z1 hi];rfl
 show(if c (o.getD j default) (o.getD (j+1) default)=0 then _ else _)=_
 rw[h1,h2]
end
end Go.Our
namespace Go.Our
open Go.Sx Go.Lib
section
variable {K J:Type}[BEq K][LawfulBEq K][BEq J][LawfulBEq J]
theorem Ol(l:List K){x:K}:x∈XP l<->x∈l:=by
 have go:∀(l acc:List K),x∈l.foldl (fun acc k=>if k∈acc then acc else acc++ [k]) acc<->x∈acc\/x∈l:=by
  intro l
  induction l with
  |nil=>intro acc;simp
  |cons k l ih=>
   intro acc;rw[List.foldl_cons,ih];split
   .rename_i hk;constructor
    .rintro(h|h);exact .inl h;exact .inr (zV _ h)
    .rintro(h|h);exact .inl h
     .rcases zK.1 h with rfl|h
      exact .inl hk;exact .inr h
   simp only[zW,zL,zK,xA,uw,or_assoc]
 unfold XP;rw[go];simp
theorem TW(l:List K):(XP l).Nodup:=by have:=Z8T l l.length;rwa [zX]at this
theorem TX:∀{x l:List K},x.Nodup->l.Nodup->(∀z,z∈x<->z∈l)->x.Perm l
 | [],l,_,_,h=>by
   have:l=[]:=ur.2 fun z hz=>by simpa using(h z).2 hz
   rw[this]
 |z::x,l,hn,hl,h=>by
  have hn':=vq.1 hn;have hz:z∈l:=(h z).1 (y5 ..);refine .trans (.cons z (TX hn'.2 (hl.erase z) fun w=>?_)) (List.perm_cons_erase hz).symm;rw[hl.mem_erase_iff,<-h w,zK];constructor
  exact fun hw=>⟨fun e=>hn'.1 (e▸hw), .inr hw⟩
  .rintro⟨h1,h2⟩;exact h2.resolve_left h1
end
theorem ZaY{K:Type}{c:K->K->Int}(h:jH c){l:List K}(hr:kC c l):l.Nodup:=
 List.Pairwise.imp (fun{a b} h1 e=>by subst e;have:=h.self a;omega) hr
theorem ZhR(cl:List Int):(Z6 (cl.mergeSort (kK qF))).length=kj cl:=by
 have h1:(Z6 (cl.mergeSort (kK qF))).Nodup:=ZaY cG (Wk cG _ (JH cG cl));have h2:=TW cl;refine(TX h1 h2 fun x=>?_).length_eq;rw[UG,uB,Ol]
theorem Om(cl:List Int):kj cl<=cl.length:=by
 have:=RC cl cl.length;rwa [zX]at this
theorem TY{K:Type}[DecidableEq K]:∀{x l:List K},x.Nodup->(∀z∈x,z∈l)->x.length<=l.length
 | [],l,_,_=>by simp
 |z::x,l,hn,h=>by
  have hn':=vq.1 hn;have hz:z∈l:=h z (y5 ..);have:=TY (x:=x) (l:=l.erase z) hn'.2 fun w hw=>(List.mem_erase_of_ne (fun(e:w=z)=>hn'.1 (e▸hw))).2 (h w (zV _ hw));rw[List.length_erase_of_mem hz]at this;have:=List.length_pos_of_mem hz;rw[List.length_cons];omega
theorem I1{K:Type}{p q:K->Bool}:∀{l:List K} {x:K},x∈l->(∀z∈l,p z=true->q z=true)->p x=false->q x=true->l.countP p<l.countP q
 |y::l,x,hx,h,hp,hq=>by
  have hm:l.countP p<=l.countP q:=List.countP_mono_left fun z hz=>h z (zV _ hz);rw[List.countP_cons,List.countP_cons];rcases zK.1 hx with rfl|hx
  rw[hp,hq];simp;omega
  .have:=I1 hx (fun z hz=>h z (zV _ hz)) hp hq;have:=h y (y5 ..);by_cases e:p y=true
   rw[e,this e];simp;omega
   .simp only[uK]at e;rw[e];simp;omega
theorem I2{K:Type}{c:K->K->Int}(h:Pre c){l:List K}{x y:K}(hx:x∈l)(hc:c x y<0):qG c l x<qG c l y:=by
 refine I1 hx (fun z hz hp=>?_) ?_ ?_;simp only[yy]at*;exact h.pM hp (by omega);simp[h.refl];simpa using hc
theorem Zke{K:Type}{c:K->K->Int}(h:Pre c){l:List K}{x y:K}(hx:x∈l)(hy:y∈l)(e:qG c l x=qG c l y):c x y=0:=by
 rcases Int.lt_trichotomy (c x y) 0 with h1|h1|h1
 have:=I2 h hx h1;omega;exact h1;have:=I2 h hy ((h.anti y x).2 h1);omega
theorem Zgi(A:List LB)(l:List Qd)(cl:List Int){x y:Nat}(hx:x<cl.length)(hy:y<cl.length)(e:(Yx A l cl)[x]'(by rw[X0];exact hx)=(Yx A l cl)[y]'(by rw[X0];exact hy)):cl[x]=cl[y]:=by
 unfold Yx at e;simp only[yz,x6]at e;have h:=Zke (VM A l cl) (yh.2 hx) (yh.2 hy) (by omega);unfold UZ at h;rw[zl,zl,z1 hx,z1 hy,Option.getD_some,Option.getD_some]at h;split at h
 rename_i e;exact(cG.zero _ _).1 e;exact(cG.zero _ _).1 h
theorem Zkf(f:Int->Int)(s:List Int):kj (s.map f)<=kj s:=by
 unfold kj;rw[show(XP s).length=((XP s).map f).length from(zA ..).symm];refine TY (TW _) fun z hz=>?_;rw[Ol]at hz;obtain⟨y,hy,rfl⟩:=zY.1 hz;exact zY.2 ⟨y,(Ol s).2 hy,rfl⟩
theorem On(A:List LB)(l:List Qd)(cl:List Int):kj cl<=kj (Yx A l cl):=by
 have e:cl=(Yx A l cl).map fun v=>cl.getD ((Yx A l cl).idxOf v) 0:=by
  apply x9 (by rw[zA,X0]);intro i h1 h2;rw[yz];have hi:i< (Yx A l cl).length:=by rw[X0];exact h1
  have hm:=zm hi;have hj:=yA hm;have hj':(Yx A l cl).idxOf (Yx A l cl)[i]<cl.length:=by rw[X0]at hj;exact hj
  rw[zl,z1 hj',Option.getD_some];exact Zgi A l cl h1 hj' (x7 hj).symm
 have h:=Zkf (fun v=>cl.getD ((Yx A l cl).idxOf v) 0) (Yx A l cl);rwa [<-e]at h
end Go.Our
namespace Go.Sx
open Go Go.Sort Go.Shelf Go.Proofs Go.Our
abbrev ah:Int->Value:=Value.int .i64
def FN(s:Int):List SV:=[.int .i64 s]
instance :PlF FN:=⟨fun _=>rfl⟩
theorem leZ(x y:Int):decide (x<=y)=kK qF x y:=by
 unfold kK qF;rw[zZ];simp only[yy,Bool.not_eq_true',ym]
 (repeat' split)<;>omega
theorem UP(w:World)(blk m:Nat)(d:Array Int)(os:Array Obj):(grow (putRow ah (Sort.ahead w m) blk 0 d) os).heap=(mapBlock w blk (putCells ah 0 d)).heap++os:=by simp[grow,putRow,mapBlock,Sort.ahead]
theorem Z7J(w:World)(blk m:Nat)(d:Array Int)(os:Array Obj):w.heap.size<=(grow (putRow ah (Sort.ahead w m) blk 0 d) os).heap.size:=by
 rw[UP];simp[mapBlock]
theorem Z5G(w:World)(blk m:Nat)(d:Array Int)(os:Array Obj){g:Nat}(hg:g<w.heap.size)(hne:g≠blk):(grow (putRow ah (Sort.ahead w m) blk 0 d) os).heap[g]?=w.heap[g]?:=by
 rw[UP,yd (by simpa[mapBlock]using hg)];simp only[mapBlock,y7];rw[z7 (fun h=>hne h.symm)]
theorem Z9D(w:World)(blk m:Nat)(d:Array Int)(os:Array Obj){c:Array Value}{T:TypeId}{fz:Nat×Nat}(h:w.heap[blk]?=some (.cells c T fz)):(grow (putRow ah (Sort.ahead w m) blk 0 d) os).heap[blk]?=some (.cells (putCells ah 0 d c) T fz):=by
 have hlt:=(zz.1 h).1;rw[UP,yd (by simpa[mapBlock]using hlt)];simp only[mapBlock,y7,yR,h,Option.map_eq_map,Option.map_some,onCells]
theorem Z9E{P:Program}{T:kE}{ρ:Ren}(L:Lays.n189 P ρ)(ef:∀args w,(callFunc (ρ.f 189) args).run P w= .ok (.enter (ρ.f 189) args) w)(l:List Int)(hl:l.length<4611686018427387904):
 uX P T (ρ.f 189) 1 [.sl (.loc 0) 0 1 l.length none] [(0, .rows 1 (l.map FN))] [] (fun r O nx=>r= .wM []/\O=[(0, .rows 1 ((l.mergeSort (kK qF)).map FN))]/\nx=1):=by
 refine⟨fun M vs hP aF hF hS H hd=> .inl ⟨ρ.f 189,by rw[hP];exact ef _ _,?_⟩⟩;obtain⟨P',⟨T',N',S',mL⟩,w0,F,η0,r9⟩:=M;simp only at hP aF hF hS H hd⊢;subst hP aF;simp only[w6]at hd;obtain⟨v,us,rfl,hv,rfl⟩:=hd;have wA:=(H.own.1 0 _ rfl).1;simp only[uZ,Env.get]at wA;simp only[Den,Env.get]at hv
 have fin:∀w' (O':w9),jS w0 w' F->uZ η0 w' true (.loc 0) (.rows 1 ((l.mergeSort (kK qF)).map FN))->
  ∃r O' w8 η',(r=SV.wM []/\O'=[(0,Hp.rows 1 ((l.mergeSort (kK qF)).map FN))]/\w8=1)/\η0<+:η'/\uY ⟨P',⟨T',N',S',mL⟩,w0,F,η0,r9⟩ η' w' O' w8/\Den η' r (.tuple #[]):=by
  intro w' O' hfr hs;refine⟨_,_,_,η0,⟨rfl,rfl,rfl⟩,zw,⟨H.pre,H.len,⟨fun i h hi=>?_,fun i j h h' k hi hj hij f f'=>?_⟩,hfr,H.qN⟩,?_⟩
  .rw[Za]at hi;split at hi
   .rename_i e;subst e;injection hi with hi;subst hi;refine⟨hs,fun n f=>(H.own.1 0 _ rfl).2 n ?_⟩;obtain⟨e,h1,h2⟩:=f;exact⟨e,h1,h2⟩
   simp[wu]at hi
  .rw[Za]at hi hj;split at hi
   .rename_i e;subst e;split at hj
    rename_i e2;exact(hij e2.symm).elim;simp[wu]at hj
   simp[wu]at hi
  simp only[Den,w6];exact⟨[],rfl,rfl⟩
 rcases wA with⟨hn,hnil⟩|⟨e,arr,Tt,fz,he,hheap,hown,hcells⟩
 .have hl0:l=[]:=by simpa using hnil
  subst hl0
  have Fs:v= .slice none 0 0:=by
   rcases hv with⟨_,h,_⟩|⟨e,o,h,_⟩
   exact h;rw[hn]at h;cases h
  subst Fs;refine(Any.slices_Sort_int_none L none 0 w0).mono ?_;rintro e w' ⟨rfl,rfl⟩;refine⟨_,rfl,fin _ [] (jS.refl _ _) ?_⟩;simp only[uZ,Env.get];exact .inl ⟨hn,by simp⟩
 .obtain⟨hun,hsz,hle,hb0⟩:=hown trivial
  obtain⟨hel,Qx⟩:l.length<=e.cap/\v= .slice (some ⟨e.g,0,none⟩) l.length e.cap:=by
   rcases hv with⟨h,_⟩|⟨e',o,h,h2,h3,h4,h5⟩
   rw[he]at h;cases h
   .rw[he]at h;cases h;simp only[Option.getD_none,zy,Nat.sub_zero]at h2 h3;have:=h5 (.inr trivial);rw[hb0]at this;simp only[yT,Nat.add_zero]at this;subst this;exact⟨h3,h2⟩
  subst Qx;have hblk:e.g<w0.heap.size:=(zz.1 hheap).1;have hsize:l.length<=arr.size:=by rw[hsz];omega
  have hcell:∀(i:Nat) (x:Int),l[i]?=some x->arr[i]?=some (ah x):=by
   intro i x hi;obtain⟨h1,h2⟩:=hcells i (FN x) (by rw[z6,hi];rfl);obtain⟨u,h3,h4,h5⟩:=h2 0 (.int .i64 x) rfl;rw[hb0,zy,xC,Nat.add_zero]at h3;simp only[Den]at h5;rw[h3,h5];try rfl
  have hH:Holds ah w0 e.g 0 l.toArray:=by
   intro t ht;rw[yl]at ht;have h4:=hcell t l[t] (z1 ht);refine⟨by rw[zy,EK hheap,h4];simp[ht],?_⟩;have:=hun t (by omega);simp only[World.frozen?,hheap,zy];simpa using this
  have hFg:F e.g:=by
   rcases(H.own.1 0 _ rfl).2 e.g ⟨e,he, .inl rfl⟩with h|h
   exact h
   .have h:w0.heap.size<=e.g:=h;omega
  have hmain:=Any.slices_Sort_int L e.g 0 e.cap l w0 hH hblk hl;rw[show(fun x y:Int=>decide (x<=y))=kK qF from funext fun x=>funext fun y=>leZ x y]at hmain;refine hmain.mono ?_;rintro e1 w' ⟨rfl,n,os,rfl⟩;refine⟨_,rfl,fin _ [] ?_ ?_⟩
  .refine⟨rfl,rfl,rfl,?_,Z7J ..,fun b hb Ft=>Z5G w0 e.g n _ os hb (fun e=>Ft (e▸hFg))⟩;simp[grow,putRow,mapBlock,Sort.ahead]
  .simp only[uZ,Env.get];have gE:(l.mergeSort (kK qF)).length=l.length:=yw l;refine .inr ⟨e,_,Tt,fz,he,Z9D w0 e.g n _ os hheap,fun _=>⟨?_,?_,?_,hb0⟩,fun i fC hi=>?_⟩;simp only[putCells,xq];exact hun;simp only[putCells,xq];exact hsz;rw[zA,gE];exact hel
   .rw[z6]at hi;obtain⟨x,hx,rfl⟩:=zB.1 hi;refine⟨rfl,fun j sv hj=>?_⟩;have hil:=(zf.1 hx).1
    match j,hj with
    |0,hj=>
     injection hj with hj;subst hj;refine⟨ah x,?_,rfl,by simp only[Den];try rfl⟩;have hlt:i<arr.size:=by omega
     rw[hb0,zy,xC,Nat.add_zero];have K5:=(zf.1 hx).2;have Qy:i<l.length:=by omega
     simp only[putCells,vC,yP hlt,Option.map_some,xO,xV,zy,yl,gE,Qy,yR,Nat.sub_zero];rw[u6,y6];simp[hx]
end Go.Sx
namespace Go.Sx
open Go Go.Our
inductive kV:List DC->List DC->Prop
 |nil:kV [] []
 |keep {d:DC} {r r':List DC} (h:kV r r'):kV (d::r) (d::r')
 |ai {d:DC} {r r':List DC} (h:kV r r'):kV (d::r) (.v .any::r')
structure jw(rs rs':List (List DC)):Prop where
 len:rs'.length=rs.length
 row:∀(r:Nat) (row':List DC),rs'[r]?=some row'->∃row:List DC,rs[r]?=some row/\kV row row'
theorem kV.len{r r':List DC}(h:kV r r'):r'.length=r.length:=by
 induction h with
 |nil=>rfl
 |keep _ ih=>simp[ih]
 |ai _ ih=>simp[ih]
theorem kV.refl:∀r:List DC,kV r r
 | []=> .nil
 |d::r=> .keep (kV.refl r)
theorem kV.get{r r':List DC}(h:kV r r'):∀{c:Nat} {d':DC},r'[c]?=some d'->∃d,r[c]?=some d/\(d'=d\/d'= .v .any):=by
 induction h with
 |nil=>intro c d' h;simp at h
 | @keep d r r' h ih=>
   intro c d' hc;cases c with
   |zero=>simp only[List.getElem?_cons_zero,zj]at hc;exact⟨d,rfl, .inl hc.symm⟩
   |succ c=>exact ih (by simpa using hc)
 | @ai d r r' h ih=>
   intro c d' hc;cases c with
   |zero=>simp only[List.getElem?_cons_zero,zj]at hc;exact⟨d,rfl, .inr hc.symm⟩
   |succ c=>exact ih (by simpa using hc)
theorem kV.den{r r':List DC}(h:kV r r'){X:Env}:∀{vs:List Value},w6 X (r.map ZT) vs->w6 X (r'.map ZT) vs:=by
 induction h with
 |nil=>exact fun h=>h
 | @keep d r r' h ih=>
   intro vs hd;simp only[zI,w6]at hd⊢;obtain⟨u,us,h1,h2,h3⟩:=hd;exact⟨u,us,h1,h2,ih h3⟩
 | @ai d r r' h ih=>
   intro vs hd;simp only[zI,w6]at hd⊢;obtain⟨u,us,h1,h2,h3⟩:=hd;exact⟨u,us,h1,by simp only[ZT,Den],ih h3⟩
theorem jw.wZ{rs rs':List (List DC)}(h:jw rs rs'){i j:Nat}{x:Nat×List (List SV)}(hk:Yl rs' i j=some x):Yl rs i j=some x:=by
 obtain⟨es,rows⟩:=x;obtain⟨row',h1,h2⟩:=wN.1 hk;obtain⟨row,h3,h4⟩:=h.row i row' h1;obtain⟨d,h5,h6|h6⟩:=h4.get h2;subst h6;exact wN.2 ⟨row,h3,h5⟩;cases h6
theorem jw.flat{rs rs':List (List DC)}(h:jw rs rs'){r:Nat}{row:List SV}(hr:(ZB rs')[r]?=some row):∃r1 r2,rs[r]?=some r1/\kV r1 r2/\row=r2.map ZT/\(ZB rs)[r]?=some (r1.map ZT):=by
 unfold ZB at hr⊢;rw[z6]at hr;obtain⟨r2,h1,rfl⟩:=zB.1 hr;obtain⟨r1,h2,h3⟩:=h.row r r2 h1;exact⟨r1,r2,h2,h3,rfl,by rw[z6,h2];rfl⟩
theorem jw.refl(rs:List (List DC)):jw rs rs:=⟨rfl,fun r row h=>⟨row,h,kV.refl row⟩⟩
theorem uZ.ai{X:Env}{w:World}{own:Bool}{b:qP}{mp:Bool}{es:Nat}{rs rs':List (List DC)}(d:uZ X w own b (.deep mp es rs))(h:jw rs rs'):uZ X w own b (.deep mp es rs'):=by
 have hK:qt X w b es rs->qt X w b es rs':=fun hD e he=>by
  obtain⟨h1,h2⟩:=hD e he;exact⟨h1,fun o ho=>⟨fun i j es' rows hk=>(h2 o ho).sat i j es' rows (h.wZ hk),fun i j i' j' x x' v v' k k1 k2=>(h2 o ho).ne i j i' j' x x' v v' k (h.wZ k1) (h.wZ k2)⟩⟩
 have hl:(ZB rs').length=(ZB rs).length:=by simp[ZB,h.len]
 cases mp
 .simp only[uZ,qm]at d⊢;refine⟨?_,hK d.2⟩;rcases d.1 with⟨h1,h2⟩|⟨e,arr,T,fz,h1,h2,h3,h4⟩
  refine .inl ⟨h1,zJ.1 (by rw[hl,h2];rfl)⟩
  .refine .inr ⟨e,arr,T,fz,h1,h2,(by rw[hl];exact h3),fun i row hr=>?_⟩;obtain⟨r1,r2,k1,k2,rfl,k4⟩:=h.flat hr;obtain⟨k5,k6⟩:=h4 i _ k4;refine⟨by rw[zA,k2.len,<-k5,zA],fun j sv hj=>?_⟩;rw[z6]at hj;obtain⟨d',k7,rfl⟩:=zB.1 hj;obtain⟨d0,k8,k9⟩:=k2.get k7;obtain⟨v,g1,g2,g3⟩:=k6 j (ZT d0) (by rw[z6,k8];rfl);rcases k9 with rfl|rfl
   exact⟨v,g1,g2,g3⟩;exact⟨v,g1,g2,by simp only[ZT,Den]⟩
 .simp only[uZ,eF]at d⊢;obtain⟨⟨⟨e,qi,h1,h2,h3,h4,h5⟩,h6⟩,h7⟩:=d;refine⟨⟨⟨e,qi,h1,h2,h3,by rw[hl];exact h4,fun i row hr=>?_⟩,h6⟩,hK h7⟩;obtain⟨r1,r2,k1,k2,rfl,k4⟩:=h.flat hr;obtain⟨en,g1,g2,g3⟩:=h5 i _ k4;exact⟨en,g1,g2,k2.den g3⟩
theorem kF.no{J:Type}{r:Option (Nat×DC)}{A:Nat->DC->J->Prop}{B:J->Prop}{j:J}(h:r=none)(k:B j):kF r A B j:=⟨(fun a d e=>by rw[h]at e;cases e),fun _=>k⟩
section
variable {M:Mx}{X:Env}{w:World}{O O1:w9}{nx n1 n2:Nat}{fr jR cw:Fr}{O2:w9}
theorem qx.ai(i:Nat){mp:Bool}{es:Nat}{rs rs':List (List DC)}(hi:wu i O=some (.deep mp es rs))(hd:jw rs rs'):qx M O nx (qh i (.deep mp es rs') O) nx:=by
 refine⟨fun X w H=>⟨X,zw,H.sD hi ((H.own.1 i _ hi).1.ai hd) fun n f=>?_⟩⟩;obtain⟨e,he,f⟩:=f;rcases f with rfl|f
 exact wq.own he
 .obtain⟨o,a,b,x,v,h1,h2,h3,h4⟩:=f;exact⟨e,he, .inr ⟨o,a,b,x,v,h1,hd.wZ h2,h3,h4⟩⟩
end
end Go.Sx
namespace Go.Our
open Go.Sx
section
variable {Y Z:Type}[DecidableEq Y](K:nw Y)
def Xn(h:Y->Z->DC)(l:List (Y×Z)):List (List DC):=l.map fun p=>[.v (K.enc p.1),h p.1 p.2]
theorem I6(es:Nat)(f:Z->List (List SV))(l:List (Y×Z)):Xw K es f l=Xn K (fun _ v=> .wZ es (f v)) l:=rfl
theorem D7(h:Y->Z->DC)(a:Y):∀(l:List (Y×Z)) (i:Nat),findD K.ks (K.enc a) i (Xn K h l)=(fM a l).map fun p=>(i+p.1,h a p.2)
 | [],i=>rfl
 |(k,v)::r,i=>by
  have ih:=D7 h a r (i+1);simp only[Xn,zI,findD,ZT,K.is,fM]at ih⊢;by_cases e:a=k
  subst e;simp
  .simp only[e,uV,v8,ih,ux];congr 1;funext p;simp only[Function.comp,yF,xo];omega
theorem Oo(h:Y->Z->DC)(l:List (Y×Z)):V3 K.ks (ZB (Xn K h l)):=by
 intro r hr;unfold ZB Xn at hr;rw[xF]at hr;obtain⟨p,_,rfl⟩:=zY.1 hr;exact⟨_,_,rfl,K.ok _⟩
theorem Oq(h:Y->Z->DC)(d:DC){a:Y}{l:List (Y×Z)}{i:Nat}{u:Z}(hn:(l.map Prod.fst).Nodup)(hi:fM a l=some (i,u)):(Xn K h l).modify i (fO d)=Xn K (fun k v=>if k=a then d else h k v) l:=by
 unfold Xn;have hr:=BO hi;apply yx;intro j;rw[yp,z6,z6];by_cases e:i=j
 .subst e;rw[hr];simp[fO]
 .cases hj:l[j]? with
  |none=>simp
  |some p=>
   have hp:¬p.1=a:=fun e1=>by
    obtain⟨h1,h2⟩:=zf.1 hr;obtain⟨h3,h4⟩:=zf.1 hj;have:=(xm (h₀:=by simpa using h1) (h₁:=by simpa using h3) hn).1 (by rw[yz,yz,h2,h4,e1]);exact e this
   simp[e,hp]
theorem I7{h h':Y->Z->DC}{l:List (Y×Z)}(hd:∀k v,h' k v=h k v\/h' k v= .v .any):jw (Xn K h l) (Xn K h' l):=by
 refine⟨by simp[Xn],fun r row' hr=>?_⟩;unfold Xn at hr⊢;rw[z6]at hr;obtain⟨p,h1,rfl⟩:=zB.1 hr;refine⟨_,by rw[z6,h1];rfl, .keep ?_⟩;rcases hd p.1 p.2 with e|e
 rw[e];exact .keep .nil;rw[e];exact .ai .nil
theorem ZmA{h:Y->Z->DC}(hp:∀k v,ia (h k v)=true):∀l:List (Y×Z),YU (Xn K h l)=true
 | []=>rfl
 |p::l=>by
  have:=ZmA hp l;have h2:=hp p.1 p.2;unfold Xn at this⊢;rw[zI,YU,this,JM,JM,JM,h2];simp[ia,K.pl]
end
end Go.Our
namespace Go.Our
open Go.Sx Go.Lib
def aX(m:List (Int×List Nat))(p:Int×Nat):List (Int×List Nat):=kO p.1 ((jt p.1 m).getD []++ [p.2]) m
def KC(cl:List Int)(i:Nat):List (Int×Nat):=(List.range i).map fun x=>(cl.getD x 0,x)
def nH(cl:List Int)(i:Nat):List (Int×List Nat):=(KC cl i).foldl aX []
theorem ZhS(m:List (Int×List Nat))(p:Int×Nat)(c:Int):(jt c (aX m p)).getD []=(jt c m).getD []++if p.1=c then [p.2]else []:=by
 unfold aX;rw[BL];by_cases e:c=p.1
 subst e;simp;rw[z7 e,z7 (yX e),zO]
theorem I8(c:Int):∀(ps:List (Int×Nat)) (m:List (Int×List Nat)),(jt c (ps.foldl aX m)).getD []=(jt c m).getD []++(ps.filter fun p=>decide (p.1=c)).map Prod.snd
 | [],m=>by simp
 |p::ps,m=>by
  rw[List.foldl_cons,I8 c ps,ZhS,vJ];by_cases e:p.1=c
  simp[e];simp[e]
theorem I9(cl:List Int)(i:Nat)(c:Int):(jt c (nH cl i)).getD []=(List.range i).filter fun x=>decide (cl.getD x 0=c):=by
 unfold nH;rw[I8];unfold KC;rw[List.filter_map,xF];show []++_=_
 rw[List.nil_append];conv=>rhs;rw[<-List.map_id (List.filter _ _)]
 rfl
theorem Zkg(cl:List Int)(c:Int):(jt c (nH cl cl.length)).getD []=qK cl c:=I9 cl cl.length c
theorem Zm1(cl:List Int)(i:Nat)(c:Int):((jt c (nH cl i)).getD []).length<=i:=by
 rw[I9];exact zP (vD ..) (by simp)
theorem Zgk(cl:List Int)(i:Nat):((nH cl i).map Prod.fst).Nodup:=by
 have go:∀(ps:List (Int×Nat)) (m:List (Int×List Nat)),(m.map Prod.fst).Nodup->((ps.foldl aX m).map Prod.fst).Nodup:=by
  intro ps
  induction ps with
  |nil=>exact fun m h=>h
  |cons p ps ih=>exact fun m h=>ih _ (Zdf h)
 exact go _ [] (by simp)
theorem ZhT(cl:List Int)(i:Nat):nH cl (i+1)=kO (cl.getD i 0) ((jt (cl.getD i 0) (nH cl i)).getD []++ [i]) (nH cl i):=by
 unfold nH KC;rw[uu,yj,vZ];rfl
theorem Zkh(cl:List Int)(i:Nat):(nH cl i).length<=i:=by
 have go:∀(ps:List (Int×Nat)) (m:List (Int×List Nat)),(ps.foldl aX m).length<=m.length+ps.length:=by
  intro ps
  induction ps with
  |nil=>exact fun m=>zo _
  |cons p ps ih=>
   intro m;refine zP (ih _) ?_
   have:(aX m p).length<=m.length+1:=by
    unfold aX;rw[<-zA (f:=Prod.fst),BT];split<;>simp
   rw[List.length_cons];omega
 have h:=go (KC cl i) [];have e:(KC cl i).length=i:=by simp[KC]
 rw[e,List.length_nil,zy]at h;exact h
theorem Ot(cl:List Int)(c:Int):(qK cl c).length<=cl.length:=by
 unfold qK;exact zP (vD ..) (by simp)
theorem Ia{K:Type}{p:K->Bool}:∀{l:List K} {i:Nat} (h:i<l.length),p l[i]=true->(∀j (hj:j<i),p (l[j]'(by omega))=false)->l.find? p=some l[i]
 |x::l,0,h,h1,_=>by rw[List.find?_cons];simp only[List.getElem_cons_zero]at h1;rw[h1];rfl
 |x::l,i+1,h,h1,h2=>by
  have h0:=h2 0 (by omega);simp only[List.getElem_cons_zero]at h0;rw[List.find?_cons,h0];simp only[List.getElem_cons_succ]at h1⊢;exact Ia (by simpa using h) h1 fun j hj=>by have:=h2 (j+1) (by omega);simpa using this
theorem ZdK{p:Nat->Bool}{n c:Nat}(hc:c<n)(h:p c=true)(hb:∀d,d<c->p d=false):(List.range n).find? p=some c:=by
 have hl:c< (List.range n).length:=by simpa using hc
 have:=Ia (p:=p) hl (by simpa using h) (fun j hj=>by simpa using hb j hj);simpa using this
theorem eN{cl:List Int}{c:Int}{x:Nat}:x∈qK cl c<->x<cl.length/\cl.getD x 0=c:=by
 unfold qK;rw[uo,yh,yy]
def er(cl:List Int)(x:Nat)(T:List Nat):List Int:=(List.range cl.length).map fun z=>if z≠x/\z∈T then cl.getD z 0+1 else cl.getD z 0
theorem KD(cl:List Int)(x:Nat)(T:List Nat):(er cl x T).length=cl.length:=by simp[er]
theorem KE{cl:List Int}{x:Nat}{T:List Nat}{z:Nat}(h:z< (er cl x T).length):(er cl x T)[z]=if z≠x/\z∈T then cl.getD z 0+1 else cl.getD z 0:=by
 simp only[er,yz,x6]
theorem ZhU(cl:List Int)(x:Nat):er cl x []=cl:=by
 apply x9 (KD _ _ _);intro z h1 h2;rw[KE,z7 (by simp),zl,z1 h2];rfl
theorem ZhV(cl:List Int)(x:Nat)(T:List Nat):er cl x (T++ [x])=er cl x T:=by
 apply x9 (by rw[KD,KD]);intro z h1 h2;rw[KE,KE];by_cases e:z=x
 rw[z7 (fun h=>h.1 e),z7 (fun h=>h.1 e)];simp[e]
theorem Zki{cl:List Int}{x t:Nat}{T:List Nat}(hx:t≠x)(ht:t<cl.length):(er cl x T).set t (cl.getD t 0+1)=er cl x (T++ [t]):=by
 apply x9 (by rw[xE,KD,KD]);intro z h1 h2;rw[vK,KE,KE];by_cases e:t=z
 .subst e;rw[zh rfl,zh ⟨hx,by simp⟩]
 .rw[z7 e];have:z∈T++ [t]<->z∈T:=by simp[yX e]
  simp only[this]
theorem Zkj{cl:List Int}{x t:Nat}{T:List Nat}(hT:t∉T)(ht:t<cl.length):(er cl x T)[t]?=some (cl.getD t 0):=by
 rw[z1 (by rw[KD];exact ht),KE,z7 (fun h=>hT h.2)]
theorem Zkk(cl:List Int)(c:Int)(x:Nat):er cl x (qK cl c)=XQ cl c x:=by
 unfold er XQ;refine yO fun z hz=>?_;have hzl:=yh.1 hz;by_cases h:z≠x/\cl.getD z 0=c
 rw[zh ⟨h.1,eN.2 ⟨hzl,h.2⟩⟩,zh h,h.2];rw[z7 (fun h2=>h ⟨h2.1,(eN.1 h2.2).2⟩),z7 h]
theorem ZdL(cl:List Int)(c:Int):(qK cl c).Nodup:=vh.filter _
theorem Ib{cl:List Int}{c:Nat}(h:Jb cl=some c):c<cl.length:=by
 unfold Jb at h;exact yh.1 (List.mem_of_find?_eq_some h)
theorem ZhW{cl:List Int}{c:Nat}(hc:c<cl.length)(h:1< (qK cl (c:Int)).length)(hb:∀d,d<c->¬1< (qK cl (d:Int)).length):Jb cl=some c:=by
 unfold Jb;have:=ZdK (n:=cl.length) (p:=fun c:Nat=>decide (1< (qK cl (c:Int)).length)) hc (by simpa using h) (fun d hd=>by simpa using hb d hd);exact this
theorem ZhX{cl:List Int}(hb:∀d,d<cl.length->¬1< (qK cl (d:Int)).length):Jb cl=none:=by
 unfold Jb;rw[List.find?_eq_none];intro d hd;simpa using hb d (yh.1 hd)
theorem Ic{A:List LB}{l:List Qd}{B:Nat}:∀(k:Nat) (cl:List Int) (s:Nat×List (List Int)),B<s.1+k->(Vn A l B k cl s).1<=B->s.2.length< (Vn A l B k cl s).2.length
 |0,cl,s,h1,h2=>by have h3:s.1<=B:=h2;omega
 |k+1,cl,s,h1,h2=>by
  have go:∀(c:Int) (xs:List Nat) (s:Nat×List (List Int)),B<s.1+k->(W0 A l B k cl c xs s).1<=B->s.2.length<=(W0 A l B k cl c xs s).2.length/\(xs≠ []->s.2.length< (W0 A l B k cl c xs s).2.length):=fun c xs=>by
   induction xs with
   |nil=>exact fun s _ _=>⟨zo _,fun h=>(h rfl).elim⟩
   |cons x xs ih=>
    intro s h3 h4;by_cases h:B<s.1
    rw[Vo h]at h4;omega
    .rw[Wr h]at h4⊢;have hg:=Em (A:=A) (l:=l) (B:=B) k (dS A l (XQ cl c x)) s;by_cases h5:B< (Vn A l B k (dS A l (XQ cl c x)) s).1
     rw[Vo h5]at h4;omega
     .have h6:=Ic k (dS A l (XQ cl c x)) s h3 (u9 h5);have h7:=ih (Vn A l B k (dS A l (XQ cl c x)) s) (by omega) h4;exact⟨by omega,fun _=>by omega⟩
  by_cases h:B<s.1+1
  rw[Wo h]at h2;dsimp only at h2;omega
  .cases hs:Jb cl with
   |none=>rw[Wp h hs];simp
   |some c=>
    rw[Wq h hs]at h2⊢;have h8:=go (c:Int) (qK cl (c:Int)) (s.1+1,s.2) (by dsimp only;omega) h2;refine h8.2 fun e=>?_;unfold Jb at hs;have:=List.find?_some hs;simp[e]at this
def eu(cl:List Int)(i:Nat):List Int:=(List.range cl.length).map fun c:Nat=>(((List.range i).filter fun x=>decide (cl.getD x 0=(c:Int))).length:Int)
theorem Ou(cl:List Int)(i:Nat):(eu cl i).length=cl.length:=by simp[eu]
theorem Ov{cl:List Int}{i c:Nat}(h:c< (eu cl i).length):(eu cl i)[c]=(((List.range i).filter fun x=>decide (cl.getD x 0=(c:Int))).length:Int):=by simp only[eu,yz,x6]
theorem ZhY(cl:List Int):eu cl 0=List.replicate cl.length 0:=by
 unfold eu;rw[vE];simp
theorem Ie{cl:List Int}{i c:Nat}(h:c<cl.length):(eu cl i)[c]?=some (((List.range i).filter fun x=>decide (cl.getD x 0=(c:Int))).length:Int):=by
 rw[z1 (by rw[Ou];exact h),Ov]
theorem Zkl{cl:List Int}{c:Nat}(h:c<cl.length):(eu cl cl.length)[c]?=some ((qK cl (c:Int)).length:Int):=Ie h
theorem ZhZ{cl:List Int}{i c:Nat}(hi:i<cl.length)(hc:cl.getD i 0=(c:Int))(jm:c<cl.length):(eu cl i).set c ((((List.range i).filter fun x=>decide (cl.getD x 0=(c:Int))).length:Int)+1)=eu cl (i+1):=by
 apply x9 (by rw[xE,Ou,Ou]);intro d h1 h2;rw[vK,Ov,Ov,uu,List.filter_append,zg];by_cases e:c=d
 .subst e;rw[zh rfl,vJ,zh (by simpa using hc)];simp
 .rw[z7 e,vJ,z7 (by rw[yy,hc];omega)];simp
def QM(cl:List Int)(k:Nat):Int:=match((List.range cl.length).drop k).find? fun c:Nat=>decide (1< (qK cl (c:Int)).length)with|some c=>(c:Int)|none=> -1
theorem Zi0(cl:List Int):QM cl cl.length= -1:=by
 unfold QM;rw[u7 (by simp)];rfl
theorem Zgo{cl:List Int}{k:Nat}(h:k<cl.length):QM cl k=if 1< (qK cl (k:Int)).length then(k:Int)else QM cl (k+1):=by
 unfold QM;rw[zq (by simpa using h),List.find?_cons];simp only[x6];by_cases e:1< (qK cl (k:Int)).length
 rw[yu e,zh e];rw[ye e,z7 e]
theorem Zgp(cl:List Int):QM cl 0=match Jb cl with|some c=>(c:Int)|none=> -1:=rfl
def sK(cl:List Int)(c:Int)(x:Nat):List Nat:=((List.range cl.length).drop x).filter fun y=>decide (cl.getD y 0=c)
theorem Zgq(cl:List Int)(c:Int):sK cl c 0=qK cl c:=rfl
theorem Zi1(cl:List Int)(c:Int):sK cl c cl.length=[]:=by
 unfold sK;rw[u7 (by simp)];rfl
theorem Zgr{cl:List Int}{c:Int}{x:Nat}(h:x<cl.length):sK cl c x=if cl.getD x 0=c then x::sK cl c (x+1)else sK cl c (x+1):=by
 unfold sK;rw[zq (by simpa using h),vJ];simp only[x6,yy]
def aY(cl:List Int)(c:Int)(x y:Nat):List Int:=(List.range cl.length).map fun z=>if z<y/\z≠x/\cl.getD z 0=c then c+1 else cl.getD z 0
theorem D8(cl:List Int)(c:Int)(x y:Nat):(aY cl c x y).length=cl.length:=by simp[aY]
theorem D9{cl:List Int}{c:Int}{x y z:Nat}(h:z< (aY cl c x y).length):(aY cl c x y)[z]=if z<y/\z≠x/\cl.getD z 0=c then c+1 else cl.getD z 0:=by simp only[aY,yz,x6]
theorem Zkm(cl:List Int)(c:Int)(x:Nat):aY cl c x 0=cl:=by
 apply x9 (D8 _ _ _ _);intro z h1 h2;rw[D9,z7 (fun h=>absurd h.1 (by omega)),zl,z1 h2];rfl
theorem Zm2(cl:List Int)(c:Int)(x:Nat):aY cl c x cl.length=XQ cl c x:=by
 unfold aY XQ;refine yO fun z hz=>?_;have hzl:=yh.1 hz;by_cases h:z≠x/\cl.getD z 0=c
 rw[zh ⟨hzl,h⟩,zh h];rw[z7 (fun h2=>h h2.2),z7 h]
theorem Zkn{cl:List Int}{c:Int}{x y:Nat}(h:¬(y≠x/\cl.getD y 0=c)):aY cl c x (y+1)=aY cl c x y:=by
 unfold aY;refine yO fun z hz=>?_;by_cases e:z<y/\z≠x/\cl.getD z 0=c
 rw[zh ⟨by omega,e.2⟩,zh e]
 .rw[z7 (fun h2=>?_),z7 e];rcases y9 z y with h3|h3
  exact e ⟨h3,h2.2⟩
  .have:z=y:=by omega
   subst this;exact h h2.2
theorem Zm3{cl:List Int}{c:Int}{x y:Nat}(hy:y<cl.length)(h:y≠x/\cl.getD y 0=c):(aY cl c x y).set y (c+1)=aY cl c x (y+1):=by
 apply x9 (by rw[xE,D8,D8]);intro z h1 h2;rw[vK,D9,D9];by_cases e:y=z
 .subst e;rw[zh rfl,zh ⟨by omega,h⟩]
 .rw[z7 e];by_cases e2:z<y/\z≠x/\cl.getD z 0=c
  rw[zh e2,zh ⟨by omega,e2.2⟩];rw[z7 e2,z7 (fun h3=>e2 ⟨by omega,h3.2⟩)]
theorem Zm4{cl:List Int}{c:Int}{x y:Nat}(hy:y<cl.length):(aY cl c x y)[y]?=some (cl.getD y 0):=by
 rw[z1 (by rw[D8];exact hy),D9,z7 (fun h=>absurd h.1 (by omega))]
noncomputable def XH (A:List LB)(l:List Qd)(B:Nat):Nat×List (List Int):=Vn A l B (B+1) (dS A l (List.replicate A.length 0)) (0,[])
theorem Ig{A:List LB}{l:List Qd}{B:Nat}(h:(XH A l B).1<=B):(XH A l B).2≠ []:=fun e=>by
 have:=Ic (A:=A) (l:=l) (B:=B) (B+1) (dS A l (List.replicate A.length 0)) (0,[]) (by dsimp only;omega) h;unfold XH at e;rw[e]at this;simp at this
end Go.Our
namespace Go.Sx
open Go
section
variable {M:Mx}{fr fr':Fr}{O O':w9}{nx n':Nat}
theorem jK.goes{f:Operand}{ps:Array Tmp}{cM body:Code}{Q:Post}(h:w5 M fr O nx fr' O' n')(k:jK M f ps cM body fr' O' n' Q):jK M f ps cM body fr O nx Q:=
 ⟨fun K a w hm=>let⟨η1,h1⟩:=h.out K a w hm;k.out η1 a w h1⟩
theorem qx.FP(es:Nat):qx M O nx ((nx, .rows es [])::O) (nx+1):=by
 refine⟨fun K w H=>⟨K++ [Option.none],zC _ _,?_⟩⟩
 have hg:(K++ [Option.none]).get (.loc nx)=some Option.none:=by
  show(K++ [Option.none])[nx]?=_
  rw[zx (by rw[H.len];omega),H.len,xS];rfl
 have hf:∀k, ¬wq (K++ [Option.none]) w (.loc nx) (.rows es []) k:=fun k ⟨e,he,_⟩=>by rw[hg]at he;cases he
 refine H.push Option.none (w':=w) (fun _ _=>rfl) (zo _) rfl rfl rfl (zo _) ?_ (fun k f=>(hf k f).elim) fun k f=>(hf k f).elim;simp only[uZ];exact .inl ⟨hg,trivial⟩
theorem uY.fresh{K:Env}{w:World}(H:uY M K w O nx){i es:Nat}{rs:List (List SV)}(hi:wu i O=some (.rows es rs)):
 ∃y,(K++ [y]).get (.loc nx)=some y/\(K++ [y]).get (.loc i)=some y/\uY M (K++ [y]) w ((nx, .rows es rs)::qy i O) (nx+1):=by
 have hs:=(H.own.1 i _ hi).1;obtain⟨y,hy,_⟩:=hs.lt;have hpre:K<+:K++ [y]:=zC _ _
 have hn:(K++ [y]).get (.loc nx)=some y:=by
  show(K++ [y])[nx]?=_
  rw[zx (by rw[H.len];omega),H.len,xS];rfl
 have ho:(K++ [y]).get (.loc i)=some y:=Env.wE hpre hy
 have hd:∀j h,wu j (qy i O)=some h->j≠i/\wu j O=some h:=fun j h hj=>by
  by_cases e:j=i
  subst e;rw[Yh]at hj;cases hj;exact⟨e,by rwa [XZ i O j e]at hj⟩
 have hft:∀k,wq (K++ [y]) w (.loc nx) (.rows es rs) k->wq K w (.loc i) (.rows es rs) k:=fun k ⟨e,he,f⟩=>by
  rw[hn]at he;injection he with he
  exact⟨e,by rw[hy,he],f⟩
 have cL:∀{j h},wu j O=some h->∀k,wq (K++ [y]) w (.loc j) h k->wq K w (.loc j) h k:=fun hj k f=>H.stands hpre hj (fun _ _=>rfl) f;refine⟨y,hn,ho,H.pre.trans hpre,by simp[H.len],⟨fun j h hj=>?_,fun j j' h h' k hj hj' hne f f'=>?_⟩,H.fr,H.qN⟩
 .rw[Za]at hj;split at hj
  .rename_i e;subst e;injection hj with hj;subst hj;refine⟨?_,fun k f=>(H.own.1 i _ hi).2 k (hft k f)⟩;simp only[uZ]at hs⊢;rcases hs with⟨h1,h2⟩|⟨e,arr,T,fz,h1,h2,h3,h4⟩
   exact .inl ⟨by rw[hn,<-hy,h1],h2⟩;exact .inr ⟨e,arr,T,fz,by rw[hn,<-hy,h1],h2,h3,fun a row ha=>⟨(h4 a row ha).1,(h4 a row ha).2.mono hpre⟩⟩
  .obtain⟨h1,h2⟩:=hd j h hj;exact⟨(H.own.1 j h h2).1.mono hpre,fun k f=>(H.own.1 j h h2).2 k (cL h2 k f)⟩
 .rw[Za]at hj hj';split at hj
  .rename_i e;subst e;injection hj with hj;subst hj;rw[z7 (fun e=>hne e.symm)]at hj';obtain⟨h1,h2⟩:=hd j' h' hj';exact H.own.2 i j' _ h' k hi h2 (yX h1) (hft k f) (cL h2 k f')
  .obtain⟨h1,h2⟩:=hd j h hj;split at hj'
   .rename_i e;subst e;injection hj' with hj';subst hj';exact H.own.2 j i h _ k h2 hi h1 (cL h2 k f) (hft k f')
   .obtain⟨h3,h4⟩:=hd j' h' hj';exact H.own.2 j j' h h' k h2 h4 hne (cL h2 k f) (cL h4 k f')
theorem qx.lJ(i:Nat){es:Nat}{rs:List (List SV)}(hi:wu i O=some (.rows es rs)):qx M O nx ((nx, .rows es rs)::qy i O) (nx+1):=
 ⟨fun K w H=>let⟨y,_,_,h⟩:=H.fresh hi;⟨_,zC _ _,h⟩⟩
theorem qx.fresh(i j:Nat){es ec n:Nat}{rs:List (List SV)}(hi:wu i O=some (.rows es rs))(hj:wu j O=some (.box [.sl (.loc i) 0 ec n none]))(hij:j≠i):
 qx M O nx (qh j (.box [.sl (.loc nx) 0 ec n none]) ((nx, .rows es rs)::qy i O)) (nx+1):=by
 refine⟨fun K w H=>?_⟩;obtain⟨y,h1,h2,h3⟩:=H.fresh hi;have hjn:j≠nx:=fun e=>by have:=H.lt hj;omega
 have hj2:wu j ((nx, .rows es rs)::qy i O)=some (.box [.sl (.loc i) 0 ec n Option.none]):=by
  rw[Za,z7 hjn,XZ i O j hij];exact hj
 refine⟨_,zC _ _,h3.sD hj2 ?_ fun k f=>f⟩;have hs:=(h3.own.1 j _ hj2).1;simp only[uZ]at hs⊢;obtain⟨e,arr,T,fz,a1,a2,a3,a4⟩:=hs;refine⟨e,arr,T,fz,a1,a2,a3,fun c sv hc=>?_⟩
 match c,hc with
 |0,hc=>
  simp only[List.getElem?_cons_zero,zj]at hc;subst hc;obtain⟨v,b1,b2,b3⟩:=a4 0 _ rfl;refine⟨v,b1,b2,?_⟩;simp only[Den]at b3⊢;rw[h2]at b3;rw[h1];exact b3
 |c+1,hc=>simp at hc
theorem qx.aj(i j c:Nat){es ec n:Nat}{rs:List (List SV)}{row:List SV}(hi:wu i O=some (.rows es rs))(hj:wu j O=some (.box row))(hc:row[c]?=some (.sl (.loc i) 0 ec n none))(hij:j≠i):
 qx M O nx (qh j (.box (row.set c (.sl (.loc nx) 0 ec n none))) ((nx, .rows es rs)::qy i O)) (nx+1):=by
 refine⟨fun K w H=>?_⟩;obtain⟨y,h1,h2,h3⟩:=H.fresh hi;have hjn:j≠nx:=fun e=>by have:=H.lt hj;omega
 have hj2:wu j ((nx, .rows es rs)::qy i O)=some (.box row):=by
  rw[Za,z7 hjn,XZ i O j hij];exact hj
 refine⟨_,zC _ _,h3.sD hj2 ?_ fun k f=>f⟩;have hs:=(h3.own.1 j _ hj2).1;simp only[uZ]at hs⊢;obtain⟨e,arr,T,fz,a1,a2,a3,a4⟩:=hs;refine⟨e,arr,T,fz,a1,a2,a3,fun d sv hd=>?_⟩;rw[xH]at hd;by_cases e1:c=d
 .subst e1;rw[zh rfl,zh (zf.1 hc).1]at hd;injection hd with hd;subst hd;obtain⟨v,b1,b2,b3⟩:=a4 c _ hc;refine⟨v,b1,b2,?_⟩;simp only[Den]at b3⊢;rw[h2]at b3;rw[h1];exact b3
 .rw[z7 e1]at hd;exact a4 d sv hd
end
section
variable {M:Mx}{O:w9}{nx:Nat}
theorem CALL.part{f:FuncId}{K:SV->w9->Nat->Prop}{es n o i:Nat}{rs:List (List SV)}{lim:Option Nat}(hb:cT M.C (.loc i)=some (.rows es rs))(hn:0<n)
 (hc:∀η1,CALL ⟨M.P,{M.C with S:=(.loc nx, .rows es (rs.drop o))::M.C.S},M.w0,M.F,η1,none⟩ f [.sl (.loc nx) 0 es n none] O (nx+1) K):CALL M f [.sl (.loc i) o es n lim] O nx K:=by
 refine⟨fun J w vs H hd=>?_⟩;simp only[w6,Den]at hd;obtain⟨v,us,rfl,hv,rfl⟩:=hd;rcases hv with⟨_,_,h0⟩|⟨e,o',he,hv,hle,hcap,hof⟩
 omega;obtain⟨wA,hft⟩:=H.qN _ _ hb;have hx:∃x:kM,x=⟨e.g,e.base+o*es,lim.getD e.cap-o⟩:=⟨_,rfl⟩;obtain⟨x,hx⟩:=hx;have hpre:J<+:J++ [some x]:=zC _ _;have hnew:(J++ [some x])[nx]?=some (some x):=by rw[zx (by rw[H.len];omega),H.len];simp
 have lK:uZ (J++ [some x]) M.w0 false (.loc i) (.rows es rs):=wA.mono (H.pre.trans hpre);have sr:(J++ [some x]).get (.loc i)=some (some e):=Env.wE hpre he
 have he0:M.η0.get (.loc i)=some (some e):=by
  obtain⟨y,hy,_⟩:=wA.lt;have:=(Env.wE H.pre hy).symm.trans he;rw[hy,this]
 have hlt:e.g<M.w0.heap.size/\¬M.F e.g:=hft _ (wq.own he0)
 have hold:∀{b h},cT M.C b=some h->∀k,wq (J++ [some x]) M.w0 b h k->wq M.η0 M.w0 b h k:=fun{b h} hb k f=>by
  obtain⟨y,hy,_⟩:=(H.qN b h hb).1.lt;exact f.less (H.pre.trans hpre) hy
 have h2:uZ (J++ [some x]) M.w0 false (.loc nx) (.rows es (rs.drop o)):=by
  simp only[uZ]at lK⊢;rcases lK with⟨h3,_⟩|⟨e',arr,T,fz,h3,h4,_,h6⟩
  rw[sr]at h3;cases h3
  .rw[sr]at h3;injection h3 with h3;injection h3 with h3;subst h3
   refine .inr ⟨x,arr,T,fz,hnew,by rw[hx];exact h4,(fun h=>by cases h),fun r row hr=>?_⟩;rw[y8]at hr;obtain⟨h7,h8⟩:=h6 _ _ hr;refine⟨h7,?_⟩;have EV:x.base=e.base+o*es:=by rw[hx]
   rw[EV];rw[xM,<-xw]at h8;exact h8
 have H1:uY ⟨M.P,{M.C with S:=(.loc nx, .rows es (rs.drop o))::M.C.S},M.w0,M.F,J++ [some x],none⟩ (J++ [some x]) w O (nx+1):=by
  refine⟨zw,by simp[H.len],⟨fun i h hi=>⟨(H.own.1 i h hi).1.mono hpre,fun k f=>(H.own.1 i h hi).2 k (H.stands hpre hi (fun _ _=>rfl) f)⟩,
   fun i j h h' k hi hj hne f f'=>H.own.2 i j h h' k hi hj hne (H.stands hpre hi (fun _ _=>rfl) f) (H.stands hpre hj (fun _ _=>rfl) f')⟩,H.fr,fun b h hb=>?_⟩
  have old:cT M.C b=some h->uZ (J++ [some x]) M.w0 false b h/\∀k,wq (J++ [some x]) M.w0 b h k->k<M.w0.heap.size/\¬M.F k:=fun hb=>
   ⟨(H.qN b h hb).1.mono (H.pre.trans hpre),fun k f=>(H.qN b h hb).2 k (hold hb k f)⟩
  cases b with
  |qf g=>exact old hb
  |loc j=>
   simp only[cT,jd,ow]at hb;cases hi:Nat.beq j nx with
   |false=>rw[hi]at hb;exact old hb
   |true=>
    rw[hi]at hb;injection hb with hb;subst hb;have hi:=Zs hi;subst hi;refine⟨h2,fun k f=>?_⟩;obtain⟨y,hy,f⟩:=f;rw[show(J++ [some x]).get (.loc j)=some (some x)from hnew]at hy;injection hy with hy;injection hy with hy;subst hy;rcases f with rfl|f
    rw[hx];exact hlt;exact f.elim
 have fB:w6 (J++ [some x]) [.sl (.loc nx) 0 es n none] [v]:=by
  simp only[w6,Den];refine⟨v,[],rfl, .inr ⟨x,o',hnew,?_,?_,zo _,fun _=>?_⟩,rfl⟩;rw[hv,hx];simp;rw[hx];simp;omega;rw[hx];simp;exact hof (.inl (by omega))
 refine((hc (J++ [some x])).out (J++ [some x]) w [v] H1 fB).mono fun v' w' ⟨r,O',w8,η',h3,h4,h5,h6⟩=>?_;exact⟨r,O',w8,η',hpre.trans h3,⟨(H.pre.trans hpre).trans h3,h4.len,h4.own,h4.fr,H.qN⟩,h5,h6⟩
end
theorem Il{J:Env}{w:World}{v:Value}{es:Nat}{rows:List (List SV)}(h:qz J w v es rows)(hp:Zp rows=true):∃en,qj w v es rows en/\∀y,en=some y->v.ownBlock=some y.g:=by
 rcases h with⟨rfl,rfl⟩|⟨g,cap,arr,T,fz,rfl,k2,k3,k4,k5,k6⟩
 .refine⟨none,⟨(fun x h=>by cases h),fun η' i hi=>⟨?_,?_⟩⟩,fun y h=>by cases h⟩;simp only[Den];exact .inl ⟨hi,trivial,rfl⟩;simp only[uZ];exact .inl ⟨hi,trivial⟩
 .refine⟨some ⟨g,0,cap⟩,⟨fun x h=>?_,fun η' i hi=>⟨?_,?_⟩⟩,fun y h=>by injection h with h;subst h;rfl⟩;injection h with h;subst h;exact(zz.1 k2).1
  .simp only[Den];exact .inr ⟨⟨g,0,cap⟩,0,hi,by simp,by simpa using k5,zo _,fun _=>by simp⟩
  .simp only[uZ];refine .inr ⟨⟨g,0,cap⟩,arr,T,fz,hi,k2,(fun h=>by cases h),fun r row hr=>?_⟩;obtain⟨h1,h2⟩:=k6 r row hr;exact⟨h1,h2.plain (Je hp hr)⟩
def JR(n x:Nat)(sv:SV):List (List SV):=(List.range n).map fun y=>[if y=x then sv else .any]
section
variable {M:Mx}{O:w9}{nx:Nat}
theorem CALL.sL{f:FuncId}{args:List SV}{K:SV->w9->Nat->Prop}{es' i x:Nat}{D:List (List DC)}{rows:List (List SV)}(hb:cT M.C (.loc i)=some (.deep false 1 D))(Oz:D[x]?=some [.wZ es' rows])(hp:Zp rows=true)
 (hc:∀η1,CALL ⟨M.P,{M.C with S:=(.loc nx, .rows es' rows)::(.loc i, .rows 1 (JR D.length x (.sl (.loc nx) 0 es' rows.length none)))::M.C.S},M.w0,M.F,η1,none⟩ f args O (nx+1) K):CALL M f args O nx K:=by
 refine⟨fun J w vs H hd=>?_⟩;obtain⟨wA,hft⟩:=H.qN _ _ hb;have Im:=wA;simp only[uZ]at wA;obtain⟨hR,hD⟩:=wA;rcases hR with⟨_,h0⟩|⟨e,arr,T,fz,he,hheap,_,hcells⟩
 .have:D=[]:=by simpa[ZB]using h0
  rw[this]at Oz;simp at Oz
 obtain⟨hbase,hK⟩:=hD e he;have kg:Yl D x 0=some (es',rows):=wN.2 ⟨_,Oz,rfl⟩;obtain⟨v,hv,hks,_⟩:=(hK _ hheap).sat x 0 es' rows kg;obtain⟨en,hL,rM⟩:=Il hks hp;have hpre:J<+:J++ [en]:=zC _ _;have hnew:(J++ [en])[nx]?=some en:=by rw[zx (by rw[H.len];omega),H.len,xS];rfl
 obtain⟨eU,h2⟩:=hL.2 _ _ hnew
 have hold:∀{b h},cT M.C b=some h->∀k,wq (J++ [en]) M.w0 b h k->wq M.η0 M.w0 b h k:=fun{b h} hb k f=>by
  obtain⟨y,hy,_⟩:=(H.qN b h hb).1.lt;exact f.less (H.pre.trans hpre) hy
 have sr:(J++ [en]).get (.loc i)=some (some e):=Env.wE (H.pre.trans hpre) he
 have h3:uZ (J++ [en]) M.w0 false (.loc i) (.rows 1 (JR D.length x (.sl (.loc nx) 0 es' rows.length none))):=by
  simp only[uZ];refine .inr ⟨e,arr,T,fz,sr,hheap,(fun h=>by cases h),fun r row hr=>?_⟩;unfold JR at hr;rw[z6]at hr;obtain⟨y,h4,rfl⟩:=zB.1 hr;obtain⟨h5,h6⟩:=zf.1 h4;rw[x6]at h6;subst h6;rw[yU]at h5;refine⟨rfl,fun j sv hj=>?_⟩;obtain⟨k1,k2⟩:=hcells r (D[r].map ZT) (by rw[Yb,z1 h5];rfl)
  match j,hj with
  |0,hj=>
   simp only[List.getElem?_cons_zero,zj]at hj;subst hj
   match hq:D[r].map ZT,k1,k2 with
   | [s],_,k2=>
     obtain⟨u,k3,k4,_⟩:=k2 0 s rfl;refine⟨u,k3,k4,?_⟩;by_cases Io:r=x
     .subst Io;rw[zh rfl];simp only[ZJ]at hv;rw[hbase,zy]at k3;rw[k3]at hv;injection hv with hv;subst hv;exact eU
     rw[z7 Io];simp only[Den]
  |j+1,hj=>simp at hj
 have H1:uY ⟨M.P,{M.C with S:=(.loc nx, .rows es' rows)::(.loc i, .rows 1 (JR D.length x (.sl (.loc nx) 0 es' rows.length none)))::M.C.S},M.w0,M.F,J++ [en],none⟩ (J++ [en]) w O (nx+1):=by
  refine⟨zw,by simp[H.len],⟨fun i h hi=>⟨(H.own.1 i h hi).1.mono hpre,fun k f=>(H.own.1 i h hi).2 k (H.stands hpre hi (fun _ _=>rfl) f)⟩,
   fun i j h h' k hi hj hne f f'=>H.own.2 i j h h' k hi hj hne (H.stands hpre hi (fun _ _=>rfl) f) (H.stands hpre hj (fun _ _=>rfl) f')⟩,H.fr,fun b h hb=>?_⟩
  have old:cT M.C b=some h->uZ (J++ [en]) M.w0 false b h/\∀k,wq (J++ [en]) M.w0 b h k->k<M.w0.heap.size/\¬M.F k:=fun hb=>
   ⟨(H.qN b h hb).1.mono (H.pre.trans hpre),fun k f=>(H.qN b h hb).2 k (hold hb k f)⟩
  cases b with
  |qf g=>exact old hb
  |loc j=>
   simp only[cT,jd,ow]at hb;cases hi:Nat.beq j nx with
   |true=>
    rw[hi]at hb;injection hb with hb;subst hb;have hi:=Zs hi;subst hi;refine⟨h2,fun k f=>?_⟩;obtain⟨y,hy,f⟩:=f;rw[show(J++ [en]).get (.loc j)=some en from hnew]at hy;injection hy with hy;have ho:=rM y hy;rcases f with rfl|f
    exact hft _ ⟨e,he, .inr (by simp only[wZ];exact⟨_,x,0,_,v,hheap,kg,hv,ho⟩)⟩;exact f.elim
   |false=>
    rw[hi]at hb;cases hi2:Nat.beq j i with
    |false=>rw[hi2]at hb;exact old hb
    |true=>
     rw[hi2]at hb;injection hb with hb;subst hb;have hi2:=Zs hi2;subst hi2;refine⟨h3,fun k f=>?_⟩;rcases f.of sr with rfl|f
     exact hft _ (wq.own he);exact f.elim
 refine((hc (J++ [en])).out (J++ [en]) w vs H1 (hd.mono hpre)).mono fun v' w' ⟨r,O',w8,η',h3,h4,h5,h6⟩=>?_;exact⟨r,O',w8,η',hpre.trans h3,⟨(H.pre.trans hpre).trans h3,h4.len,h4.own,h4.fr,H.qN⟩,h5,h6⟩
end
theorem qj.OA{w w':World}{F:Nat->Prop}{v:Value}{es:Nat}{rs:List (List SV)}{en:Option kM}(h:qj w v es rs en)(hf:jS w w' F)(hF:∀y,en=some y->¬F y.g):qj w' v es rs en:=
 ⟨fun x hx=>yL (h.1 x hx) hf.size,fun K i hi=>⟨(h.2 K i hi).1,(h.2 K i hi).2.keep fun k f=>by
  obtain⟨e,he,f⟩:=f;rw[show K.get (.loc i)=some en from hi]at he;injection he with he;rcases f with rfl|f
  exact hf.block _ (h.1 e he) (hF _ he)
  exact f.elim⟩⟩
def KF(K:Env)(w:World)(O:w9)(i:Nat)(k:Nat):Prop:=∃(j:Nat) (h:Hp),j≠i/\wu j O=some h/\wq K w (.loc j) h k
section
variable {M:Mx}{K:Env}{w:World}{O:w9}{nx:Nat}
def FQ(M:Mx)(O:w9)(K:Env)(w:World)(i es:Nat)(R:List (List SV)):Mx:=⟨M.P,{M.C with S:=(.loc i, .rows es R)::M.C.S},w,KF K w O i,K,M.px⟩
theorem uY.QN(H:uY M K w O nx){i es:Nat}{rs:List (List DC)}{R:List (List SV)}(hi:wu i O=some (.deep false es rs))(hR:dD K w i es rs R):uY (FQ M O K w i es R) K w (qy i O) nx:=by
 have hd:∀j h,wu j (qy i O)=some h->j≠i/\wu j O=some h:=fun j h hj=>by
  by_cases e:j=i
  subst e;rw[Yh]at hj;cases hj;exact⟨e,by rwa [XZ i O j e]at hj⟩
 refine⟨zw,H.len,⟨fun j h hj=>?_,fun j j' h h' k hj hj' hne f=>?_⟩,jS.refl _ _,fun b h hb=>?_⟩
 .obtain⟨h1,h2⟩:=hd j h hj;exact⟨(H.own.1 j h h2).1,fun k f=> .inl ⟨j,h,h1,h2,f⟩⟩
 exact H.own.2 j j' h h' k (hd j h hj).2 (hd j' h' hj').2 hne f
 have old:cT M.C b=some h->uZ K w false b h/\∀k,wq K w b h k->k<w.heap.size/\¬KF K w O i k:=fun hb=>by
  refine⟨H.shared hb,fun k f=>?_⟩;obtain⟨h1,h2⟩:=H.qN b h hb;obtain⟨x,hx,_⟩:=h1.lt
  have f2:wq M.η0 M.w0 b h k:=(f.less H.pre hx).keep fun e he=>by
   obtain⟨h3,h4⟩:=h2 e.g (wq.own he);exact H.fr.block _ h3 h4
  obtain⟨h3,h4⟩:=h2 k f2;refine⟨yL h3 H.fr.size,?_⟩;rintro⟨j,h',_,hj,f3⟩;rcases(H.own.1 j h' hj).2 k f3 with h5|h5
  exact h4 h5;omega
 cases b with
 |qf g=>exact old hb
 |loc j=>
  simp only[FQ,cT,jd,ow]at hb;cases e:Nat.beq j i with
  |false=>rw[e]at hb;exact old hb
  |true=>
   rw[e]at hb;injection hb with hb;subst hb;have:=Zs e;subst this;refine⟨hR.sat,fun k f=>⟨hR.sat.wY f,?_⟩⟩;rintro⟨j',h',hne,hj',f'⟩;obtain⟨en,he,f⟩:=f;rcases f with rfl|f
   exact H.own.2 j' j h' _ _ hj' hi hne f' ⟨en,he, .inl rfl⟩;exact f.elim
theorem uY.dx(H:uY M K w O nx){i es:Nat}{R:List (List SV)}{η':Env}{w':World}{O':w9}{n':Nat}(H':uY (FQ M O K w i es R) η' w' O' n'):uY M η' w' O' n':=by
 have go:∀k,KF K w O i k->M.F k\/M.w0.heap.size<=k:=fun k ⟨j,h,_,hj,f⟩=>(H.own.1 j h hj).2 k f;refine⟨H.pre.trans H'.pre,H'.len,⟨fun j h hj=>⟨(H'.own.1 j h hj).1,fun k f=>?_⟩,H'.own.2⟩,H.fr.trans H'.fr go,H.qN⟩;rcases(H'.own.1 j h hj).2 k f with h1|h1
 exact go k h1;exact .inr (zP H.fr.size h1)
theorem uY.lM(H:uY M K w O nx){i es:Nat}{rs:List (List DC)}{R:List (List SV)}(hi:wu i O=some (.deep false es rs))(hR:dD K w i es rs R){r c es':Nat}{rows:List (List SV)}{row:List DC}(h1:rs[r]?=some row)(h2:row[c]?=some (.wZ es' rows))(hp:Zp rows=true):
 ∃fC v,R[r]?=some fC/\fC[c]?=some (.val v)/\∀w',jS w w' (KF K w O i)->∃en,qj w' v es' rows en:=by
 obtain⟨fC,v,h3,h4,h5⟩:=hR.ck r c row es' rows h1 h2;refine⟨fC,v,h3,h4,fun w' hf=>?_⟩;obtain⟨en,h6,h7⟩:=Il h5 hp;refine⟨en,h6.OA hf fun y hy=>?_⟩;rintro⟨j,h',hne,hj,f⟩;have hs:=hR.sat;simp only[uZ]at hs;rcases hs with⟨_,hs⟩|⟨e,arr,T,fz,g2,g3,_,g5⟩
 rw[hs]at h3;simp at h3;obtain⟨_,g6⟩:=g5 r fC h3;obtain⟨u,g7,_,g8⟩:=g6 c (.val v) h4;simp only[Den]at g8;have hb:=(((H.own.1 i _ hi).1.qZ).2.1 e g2).1;refine H.own.2 j i h' _ y.g hj hi hne f ⟨e,g2, .inr ⟨_,r,c,(es',rows),v,g3,wN.2 ⟨row,h1,h2⟩,?_,h7 y hy⟩⟩;simp only[ZJ];rw[hb,zy]at g7;rw[g7,g8.1]
theorem wz.dx{fr fr':Fr}{a a':Act}(H:uY M K w O nx){i es:Nat}{R:List (List SV)}{η':Env}{w':World}{O':w9}{n':Nat}(h:wz (FQ M O K w i es R) η' fr' O' n' a' w'):wz M η' fr' O' n' a' w':=
 ⟨H.dx h.heap,h.size,h.cN,h.defers,h.ro,h.frame⟩
theorem wj.rest{body:Code}{fr:Fr}{Q:Post}{i es:Nat}{rs:List (List DC)}{O1:w9}(hi:wu i O=some (.deep false es rs))(hO:qy i O=O1)
 (h:∀(K:Env) w,K.length=nx->∀R,dD K w i es rs R->(∀(r c es':Nat) (rows:List (List SV)) (row:List DC),rs[r]?=some row->row[c]?=some (.wZ es' rows)->Zp rows=true->∃fC v,R[r]?=some fC/\fC[c]?=some (.val v)/\∀w',jS w w' (KF K w O i)->∃en,qj w' v es' rows en)->
   wj ⟨M.P,{M.C with S:=(.loc i, .rows es R)::M.C.S},w,KF K w O i,K,M.px⟩ body fr O1 nx Q):wj M body fr O nx Q:=by
 subst hO;refine⟨fun K a w hm b k cs hro=>?_⟩;have H:=hm.heap;obtain⟨R,hR⟩:=O3 (H.own.1 i _ hi).1;have hl:=h K w H.len R hR fun r c es' rows row h1 h2 h3=>H.lM hi hR h1 h2 h3;have hm2:wz (FQ M O K w i es R) K fr (qy i O) nx a w:=⟨H.QN hi hR,hm.size,hm.cN,hm.defers,hm.ro,hm.frame⟩;obtain⟨e,a',w',hq,ha⟩:=hl.out K a w hm2 b k cs hro;refine⟨e,a',w',?_,ha⟩;cases e with
 |normal=>obtain⟨η',fr',O',n',h1,h2⟩:=hq;exact⟨η',fr',O',n',wz.dx (a:=a) (fr:=fr) H h1,h2⟩
 |exit id=>obtain⟨η',fr',O',n',h1,h2⟩:=hq;exact⟨η',fr',O',n',wz.dx (a:=a) (fr:=fr) H h1,h2⟩
 |ret=>obtain⟨η',fr',O',n',h1,h2⟩:=hq;exact⟨η',fr',O',n',wz.dx (a:=a) (fr:=fr) H h1,h2⟩
 |panic ch=>
  obtain⟨kp,X,h1,η',O',n',v,sv,h2,h3,h4⟩:=hq;exact⟨kp,X,h1,η',O',n',v,sv,h2,wz.dx (a:=a) (fr:=fr) H h3,h4⟩
 |_=>exact hq.elim
end
end Go.Sx
namespace Go.Our
open Go.Sx Go.Lib
def b9(n:Nat):LB:=if n=0 then []else decDigits n
def dV(least n:Nat)(s:LB):LB:=List.replicate (least-(b9 n).length-s.length) 48++(b9 n++s)
theorem Zgv{n:Nat}(h:0<n):b9 n=b9 (n/10)++ [UInt8.ofNat (48+n%10)]:=by
 unfold b9;rw[z7 (by omega)];conv=>lhs;rw[decDigits]
 by_cases h9:n<10
 rw[zh (show n/10=0 by omega),yg h9,xy h9];rfl;rw[z7 (show ¬n/10=0 by omega),yK h9]
theorem Zib{least n:Nat}{s:LB}(h:0<n\/s.length<least):dV least (n/10) (UInt8.ofNat (48+n%10)::s)=dV least n s:=by
 unfold dV;by_cases hn:0<n
 .rw[Zgv hn];rw[zg,List.length_cons,List.length_singleton,zM,List.singleton_append];congr 2;omega
 .have hn0:n=0:=by omega
  subst hn0;have h1:s.length<least:=by omega
  simp only[b9,Nat.zero_div,yR,List.length_nil,List.nil_append,List.length_cons,Nat.sub_zero,Nat.zero_mod,Nat.add_zero];rw[show least-s.length=(least-(s.length+1))+1 by omega,List.replicate_succ'];simp
theorem Zks{least:Nat}{s:LB}(h:least<=s.length):dV least 0 s=s:=by
 unfold dV;rw[show least-(b9 0).length-s.length=0 by simp[b9];omega];rfl
theorem Zkt(n:Nat):0< (decDigits n).length:=List.length_pos_iff.2 (Z8R n)
theorem Zic(n:Nat):dV 4 n []=ny n:=by
 unfold dV ny b9;by_cases h:n=0
 .subst h;rw[zh rfl,decDigits,yg (by omega)];rfl
 rw[z7 h];simp
theorem Zku(n:Nat):dV 1 n []=decDigits n:=by
 unfold dV b9;by_cases h:n=0
 .subst h;rw[zh rfl,decDigits,yg (by omega)];rfl
 .rw[z7 h];have:=Zkt n;rw[show 1-(decDigits n).length-([]:LB).length=0 by simp;omega];simp
section
variable {K:Type}{c:K->K->Int}
def gq(c:K->K->Int):List K->List K->List K
 | [],b=>b
 |x::a,[]=>x::a
 |x::a,y::b=>if c x y<=0 then x::gq c a (y::b)else y::gq c (x::a) b
termination_by a b=>a.length+b.length
theorem FW(b:List K):gq c [] b=b:=by unfold gq;rfl
theorem Db(a:List K):gq c a []=a:=by cases a<;>(unfold gq;rfl)
theorem OH{x y:K}{a b:List K}(h:c x y<=0):gq c (x::a) (y::b)=x::gq c a (y::b):=by
 conv=>lhs;unfold gq
 rw[zh h]
theorem OI{x y:K}{a b:List K}(h:¬c x y<=0):gq c (x::a) (y::b)=y::gq c (x::a) b:=by
 conv=>lhs;unfold gq
 rw[z7 h]
theorem KH:∀(n:Nat) (a b:List K),a.length+b.length<=n->(gq c a b).Perm (a++b)
 |_,[],b,_=>by rw[FW];exact vF _
 |_,x::a,[],_=>by rw[Db,zO]
 |0,x::a,y::b,h=>by simp at h
 |n+1,x::a,y::b,h=>by
  simp only[List.length_cons]at h;by_cases e:c x y<=0
  .rw[OH e];exact(KH n a (y::b) (by simp only[List.length_cons];omega)).cons x
  .rw[OI e];refine((KH n (x::a) b (by simp only[List.length_cons];omega)).cons y).trans ?_;exact List.perm_middle.symm
theorem Um(h:Pre c):∀(n:Nat) (a b:List K),a.length+b.length<=n->a.Pairwise (fun x y=>c x y<=0)->b.Pairwise (fun x y=>c x y<=0)->(gq c a b).Pairwise (fun x y=>c x y<=0)
 |_,[],b,_,_,hb=>by rw[FW];exact hb
 |_,x::a,[],_,ha,_=>by rw[Db];exact ha
 |0,x::a,y::b,hn,_,_=>by simp at hn
 |n+1,x::a,y::b,hn,ha,hb=>by
  simp only[List.length_cons]at hn;have aQ:=yq.1 ha;have hb':=yq.1 hb;by_cases e:c x y<=0
  .rw[OH e];refine yq.2 ⟨fun z hz=>?_,Um h n a (y::b) (by simp only[List.length_cons];omega) aQ.2 hb⟩;have:=(KH (c:=c) n a (y::b) (by simp only[List.length_cons];omega)).mem_iff.1 hz;rcases zW.1 this with h1|h1
   exact aQ.1 z h1
   .rcases zK.1 h1 with rfl|h1
    exact e;exact h.trans _ _ _ e (hb'.1 z h1)
  .rw[OI e];have e2:c y x<=0:=by have:=(h.anti y x).2 (by omega);omega
   refine yq.2 ⟨fun z hz=>?_,Um h n (x::a) b (by simp only[List.length_cons];omega) ha hb'.2⟩;have:=(KH (c:=c) n (x::a) b (by simp only[List.length_cons];omega)).mem_iff.1 hz;rcases zW.1 this with h1|h1
   .rcases zK.1 h1 with rfl|h1
    exact e2;exact h.trans _ _ _ e2 (aQ.1 z h1)
   exact hb'.1 z h1
theorem Xz{SA SB out tot:List K}{p q:Nat}(hp:p<SA.length)(hq:SB.length<=q\/∃h:q<SB.length,c SA[p] SB[q]<=0)(hr:out++gq c (SA.drop p) (SB.drop q)=tot):(out++ [SA[p]])++gq c (SA.drop (p+1)) (SB.drop q)=tot:=by
 rw[<-hr,zM,List.singleton_append,zq hp];rcases hq with hq|⟨hq,hc⟩
 rw[zN hq,Db,Db];rw[zq hq,OH hc]
theorem XA{SA SB out tot:List K}{p q:Nat}(hq:q<SB.length)(hp:SA.length<=p\/∃h:p<SA.length, ¬c SA[p] SB[q]<=0)(hr:out++gq c (SA.drop p) (SB.drop q)=tot):(out++ [SB[q]])++gq c (SA.drop p) (SB.drop (q+1))=tot:=by
 rw[<-hr,zM,List.singleton_append,zq hq];rcases hp with hp|⟨hp,hc⟩
 rw[zN hp,FW,FW];rw[zq hp,OI hc]
theorem KJ{SA SB out tot:List K}{p q:Nat}(hp:SA.length<=p)(hq:SB.length<=q)(hr:out++gq c (SA.drop p) (SB.drop q)=tot):out=tot:=by
 rw[<-hr,zN hp,zN hq,FW,zO]
theorem jH.pre(h:jH c):Pre c where
 anti a b:=by have:=h.anti a b;omega
 trans:=h.trans
theorem Zb7[DecidableEq K](h:jH c){l m:List K}(hp:m.Perm l)(hs:m.Pairwise fun x y=>c x y<=0):m=l.mergeSort (kK c):=by
 refine List.Perm.eq_of_pairwise (le:=fun x y=>c x y<=0) (fun a b _ _ h1 h2=>?_) hs (JH h l) (hp.trans (vk l _).symm);have:=h.anti a b;exact(h.zero a b).1 (by omega)
theorem Zkv[DecidableEq K](h:jH c)(l:List K)(k:Nat):gq c ((l.take k).mergeSort (kK c)) ((l.drop k).mergeSort (kK c))=l.mergeSort (kK c):=by
 refine Zb7 h ?_ (Um h.pre _ _ _ (zo _) (JH h _) (JH h _));refine(KH _ _ _ (zo _)).trans ?_;have:=(vk (l.take k) (kK c)).append (vk (l.drop k) (kK c));rwa [yM]at this
end
end Go.Our

namespace Go.Our
open Go.Sx
theorem Zgw{m m' a b c d b' c' d':Int}(h:(fW m a b c d).2≠0)(hm:m<=m')(hb:2<=m->b'=b)(hc:3<=m->c'=c)(hd:4<=m->d'=d):fW m' a b' c' d'=fW m a b c d:=by
 unfold fW at h⊢;by_cases a1:a<128
 rw[zh a1,zh a1];rw[z7 a1]at h⊢;rw[z7 a1];by_cases a2:a<192
 rw[zh a2]at h;exact(h rfl).elim;rw[z7 a2]at h⊢;rw[z7 a2];by_cases a3:a<224
 .rw[zh a3]at h⊢;rw[zh a3];split at h
  .rename_i k;rw[hb k.1,zh ⟨by omega,k.2⟩,zh k]
  exact(h rfl).elim
 rw[z7 a3]at h⊢;rw[z7 a3];by_cases a4:a<240
 .rw[zh a4]at h⊢;rw[zh a4];split at h
  .rename_i k;rw[hb (by omega),hc k.1,zh ⟨by omega,k.2⟩,zh k]
  exact(h rfl).elim
 rw[z7 a4]at h⊢;rw[z7 a4];by_cases a5:a<248
 .rw[zh a5]at h⊢;rw[zh a5];split at h
  .rename_i k;rw[hb (by omega),hc (by omega),hd k.1,zh ⟨by omega,k.2⟩,zh k]
  exact(h rfl).elim
 rw[z7 a5]at h;exact(h rfl).elim
theorem Dg{s R:List UInt8}{k:Int}(h0:0<=k)(h:k<s.length):Z1 (s++R) k=Z1 s k:=by
 unfold Z1;rw[zl,zl,zn (by omega)]
theorem Zba{s R:List UInt8}{i:Nat}(h:(Z7 s i).2≠0):Z7 (s++R) i=Z7 s i:=by
 have hi:i<s.length:=Nat.lt_of_not_le fun h1=>h (WR h1);unfold Z7 at h⊢;rw[z7 (by omega)]at h;rw[z7 (by rw[zg];omega),z7 (by omega),Dg (by omega) (by omega)];exact Zgw h (by rw[zg];omega) (fun h=>Dg (by omega) (by omega)) (fun h=>Dg (by omega) (by omega)) (fun h=>Dg (by omega) (by omega))
end Go.Our
namespace Go.Our
open Go.Sx Go.Lib
theorem Zgx{b:UInt8}(hb:b.toNat<128)(s:List UInt8)(i:Nat)(hi:i<=s.length):∀l,wB s i=some l->wB (s++ [b]) i=some (l++ [(b.toNat:Int)]):=by
 induction i using wB.induct s with
 |case1 i h h0 ih=>
  intro l hl;have hn:=Y7 s i;have e:=Zba (R:=[b]) h0;rw[wB,yg h,yg h0]at hl;obtain⟨m,hm,rfl⟩:=zB.1 hl;rw[wB,yg (by rw[zg];omega),yg (by rw[e];exact h0),e,ih (by omega) m hm];rfl
 |case2 i h h0=>
  intro l hl;rw[wB,yg h,yK h0]at hl;cases hl
 |case3 i h=>
  intro l hl;rw[wB,yK h]at hl;injection hl with hl;subst hl;have hie:i=s.length:=by omega
  subst hie
  have e:Z7 (s++ [b]) (s.length:Nat)=((b.toNat:Int),1):=by
   unfold Z7;rw[z7 (by rw[zg];simp;omega)]
   have:Z1 (s++ [b]) (s.length:Nat)=b.toNat:=by
    unfold Z1;rw[Int.toNat_natCast,zl,zx (zo _)];simp
   rw[this];unfold fW;rw[zh (by omega)]
  rw[wB,yg (by rw[zg];simp),yg (by rw[e];show(1:Int)≠0;omega),e];rw[wB,yK (by rw[zg];simp)];rfl
theorem ID{d:Nat}(h:48<=d/\d<=57):Yi (d:Int):=by
 obtain rfl|rfl|rfl|rfl|rfl|rfl|rfl|rfl|rfl|rfl:d=48\/d=49\/d=50\/d=51\/d=52\/d=53\/d=54\/d=55\/d=56\/d=57:=by omega
 all_goals decide
theorem IE{d:Nat}(hd:48<=d/\d<=57):∀l:List Int,YW l=true->YW (l++ [(d:Int)])=true
 | [],_=>by
   show decide (Yi (d:Int))=true
   exact yu (ID hd)
 | [r],h=>by
   simp only[YW,yc]at h;show(decide (Yi r\/r=46)&&decide (Yi (d:Int)))=true
   rw[yu (.inl h),yu (ID hd)];rfl
 |r::q::l,h=>by
  simp only[YW,zk]at h;show(decide (Yi r\/r=46)&&YW (q::l++ [(d:Int)]))=true
  rw[h.1,IE hd (q::l) h.2];rfl
theorem Zky{s:List UInt8}{d:UInt8}(hd:48<=d.toNat/\d.toNat<=57)(h:UT s=0):UT (s++ [d])=0:=by
 rw[LX]at h⊢;unfold GX at h⊢;split at h
 .rename_i r l hs;split at h
  .rename_i hk;rw[Zgx (by omega) s 0 (xO _) _ hs];exact zh ⟨hk.1,IE hd l hk.2⟩
  cases h
 cases h
theorem o5:∀(ds:List UInt8) {s:List UInt8},(∀d∈ds,48<=d.toNat/\d.toNat<=57)->UT s=0->UT (s++ds)=0
 | [],s,_,h=>by rw[zO];exact h
 |d::ds,s,hd,h=>by
  have e:s++d::ds=(s++ [d])++ds:=by simp
  rw[e];exact o5 ds (fun x hx=>hd x (zV _ hx)) (Zky (hd d (y5 ..)) h)
theorem Zkz(c:Int):UT (b6 c)=0:=
 o5 (decDigits c.toNat) (s:=[99]) (Zfh _) (by decide+kernel)
def ez(cl:List Int)(x:Nat):Int:=cl.getD x 0
def oU(A:List LB)(l:List Qd)(cl:List Int)(a b:Nat):Int:=VN (ez cl a) (ez cl b) (Yu A l cl a) (Yu A l cl b)
theorem H7(A:List LB)(l:List Qd)(cl:List Int)(a b:Nat):(oU A l cl a b<0<->UZ A l cl a b<0)/\(oU A l cl a b=0<->UZ A l cl a b=0):=Zaw _ _ _ _
theorem IL(A:List LB)(l:List Qd)(cl:List Int)(a b:Nat):oU A l cl a b<=0<->UZ A l cl a b<=0:=by
 obtain⟨h1,h2⟩:=H7 A l cl a b;omega
theorem ZkA(A:List LB)(l:List Qd)(cl:List Int):Pre (oU A l cl) where
 anti a b:=by
  have h:=(VM A l cl).anti a b;obtain⟨h1,h2⟩:=H7 A l cl a b;obtain⟨h3,h4⟩:=H7 A l cl b a;omega
 trans a b d h1 h2:=by
  rw[IL]at*;exact(VM A l cl).trans a b d h1 h2
theorem IP{A:List LB}{l:List Qd}{cl:List Int}{o:List Nat}(h:o.Pairwise fun a b=>oU A l cl a b<=0):o.Pairwise fun a b=>UZ A l cl a b<=0:=h.imp fun h1=>(IL ..).1 h1
theorem OW{cl:List Int}(h:∀c∈cl,0<=c/\c<10000)(x:Nat):0<=ez cl x/\ez cl x<1048576:=by
 unfold ez;rw[zl];by_cases hx:x<cl.length
 .rw[z1 hx,Option.getD_some];have:=h _ (zm hx);omega
 rw[zS (by omega)];simp
