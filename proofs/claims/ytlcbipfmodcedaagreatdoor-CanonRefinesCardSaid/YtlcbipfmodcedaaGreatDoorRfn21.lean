/- Part 21: SxKids, SxLent, SxRaw, SortC, KidD, Part, Moved, PartK, RawL, Dull. Conditions: as each part says. -/
import Derived.Test.YtlcbipfmodcedaaGreatDoorRfn8
set_option linter.unusedVariables false
set_option linter.unusedSimpArgs false
namespace Go.Sx
open Go
structure GHO(M:Mx)(O:Hps)(nx:Nat)(O1:Hps)(n1:Nat):Prop where
 out:∀η w,HeapOK M η w O nx->∃η',η<+:η'/\HeapOK M η' w O1 n1
section
variable {M:Mx}{fr:Fr}{O O1 O2:Hps}{nx n1 n2:Nat}
theorem GHO.refl:GHO M O nx O nx:=⟨fun η w H=>⟨η,List.prefix_rfl,H⟩⟩
theorem GHO.trans(h:GHO M O nx O1 n1)(k:GHO M O1 n1 O2 n2):GHO M O nx O2 n2:=
 ⟨fun η w H=>let⟨η1,p1,H1⟩:=h.out η w H;let⟨η2,p2,H2⟩:=k.out η1 w H1;⟨η2,p1.trans p2,H2⟩⟩
theorem GHO.goes(h:GHO M O nx O1 n1):GOES M fr O nx fr O1 n1:=
 ⟨fun η a w hm=>let⟨η',hp,H⟩:=h.out η w hm.heap;⟨η',H,hm.size,hm.nds,hm.defers.mono hp,U7 hp hm.ro,fun t v ht=>(hm.frame t v ht).mono hp⟩⟩
theorem GHO.loop{body:Code}{Q:Post}(h:GHO M O nx O1 n1)(k:LOOP M body fr O1 n1 Q):LOOP M body fr O nx Q:=LOOP.goes h.goes k
theorem GHO.call{f:FuncId}{args:List SV}{K:SV->Hps->Nat->Prop}(h:GHO M O nx O1 n1)(k:CALL M f args O1 n1 K):CALL M f args O nx K:=CALL.weak h.out k
theorem GHO.drawn{id:Nat}{ops:Array Oper}{Q:Post}(h:GHO M O nx O1 n1)(k:DRAWN M id ops fr O1 n1 Q):DRAWN M id ops fr O nx Q:=
 ⟨fun η a w hm=>let⟨η1,h1⟩:=(h.goes (fr:=fr)).out η a w hm;k.out η1 a w h1⟩
theorem GHO.fin{r:SV}{Q:SV->Hps->Nat->Prop}(h:GHO M O nx O1 n1)(k:FIN M O1 n1 r Q):FIN M O nx r Q:=
 ⟨fun η w v H hd=>let⟨η1,p1,H1⟩:=h.out η w H;k.out η1 w v H1 (hd.mono p1)⟩
theorem GHO.deep0(i:Nat)(hi:lkp i O=some (.mp [])):GHO M O nx (setK i (.deep true 2 []) O) nx:=by
 refine⟨fun η w H=>⟨η,List.prefix_rfl,?_⟩⟩;have hsat:=(H.own.1 i _ hi).1;simp only[HpSat]at hsat;obtain⟨e,es,h1,h2,h3,h4,h5⟩:=hsat;have hk:∀a b x,Yd [] a b=some x->False:=fun a b x h=>by simp[Yd]at h
 refine H.updF hi h1 (fun _ _=>rfl) rfl rfl rfl rfl ?_ (Nat.le_refl _) fun m f=>?_
 ·simp only[HpSat];refine⟨⟨⟨e,es,h1,h2,h3,h4,h5⟩,trivial⟩,fun e' h6=>?_⟩;rw[h1]at h6;injection h6 with h6;injection h6 with h6;subst h6
  exact⟨h2,fun o ho=>⟨fun a b es' rows h=>(hk a b _ h).elim,fun a b a' b' x x' v v' k h=>(hk a b _ h).elim⟩⟩
 ·rcases f.of h1 with rfl|f
  ·exact feet.own h1
  ·simp only[kid]at f;obtain⟨o,a,b,x,v,_,h,_⟩:=f;exact(hk a b _ h).elim
theorem GHO.nilCell(i j es:Nat){row row':List SV}(hi:lkp i O=some (.box row))(hr:Z3q nx es j row=some row'):GHO M O nx ((nx, .rows es [])::setK i (.box row') O) (nx+1):=⟨fun η w H=>H.nilCell hi hr⟩
theorem GHO.putk(i r c k:Nat){mp:Bool}{es es' n:Nat}{rs:List (List DC)}{row:List DC}{rows:List (List SV)}(hi:lkp i O=some (.deep mp es rs))(hr:rs[r]?=some row)(hc:row[c]?=some (.v (.sl (.loc k) 0 es' n none)))
 (hk:lkp k O=some (.rows es' rows)) (hn:n<=rows.length) (hki:k≠i):GHO M O nx (delK k (setK i (.deep mp es (setC rs r c (.kid es' (rows.take n)))) O)) nx:=⟨fun η w H=>⟨η,List.prefix_rfl,H.putk hi hr hc hk hn hki⟩⟩
theorem FINDD.at{J:Type}{r:Option (Nat×DC)}{A:Nat->DC->J->Prop}{B:J->Prop}{j:J}{i:Nat}{d:DC}(h:r=some (i,d))(k:A i d j):FINDD r A B j:=
 ⟨fun i' d' h'=>by rw[h]at h';simp only[Option.some.injEq,Prod.mk.injEq]at h';obtain⟨rfl,rfl⟩:=h';exact k,fun h'=>by rw[h]at h';cases h'⟩
theorem HeapOK.anew{η:Env}{w:World}(H:HeapOK M η w O nx){i:Nat}{h h':Hp}(hi:lkp i O=some h)(hs:HpSat η w true (.loc i) h')(hk:∀n,feet η w (.loc i) h' n->feet η w (.loc i) h n):HeapOK M η w (setK i h' O) nx:=by
 have hin:∀{a g},lkp a (setK i h' O)=some g->∃g0,lkp a O=some g0/\HpSat η w true (.loc a) g/\∀n,feet η w (.loc a) g n->feet η w (.loc a) g0 n:=by
  intro a g ha;rw[ZX _ _ _ _ (by rw[hi];rfl)]at ha;split at ha
  ·rename_i e;subst e;injection ha with ha;subst ha;exact⟨_,hi,hs,hk⟩
  ·exact⟨g,ha,(H.own.1 _ _ ha).1,fun n f=>f⟩
 refine⟨H.pre,H.len,⟨fun a g ha=>?_,fun a b g g' n ha hb hab f f'=>?_⟩,H.fr,H.sok⟩
 ·obtain⟨g0,h1,h2,h3⟩:=hin ha;exact⟨h2,fun n f=>(H.own.1 a g0 h1).2 n (h3 n f)⟩
 ·obtain⟨g0,h1,_,h3⟩:=hin ha;obtain⟨g0',h1',_,h3'⟩:=hin hb;exact H.own.2 a b g0 g0' n h1 h1' hab (h3 n f) (h3' n f')
def Deepens:List SV->List DC->Prop
 | [],[]=>True
 |s::r,d::ds=>(d= .v s\/(s= .val (.slice none 0 0)/\∃e,d= .kid e []))/\Deepens r ds
 |_,_=>False
theorem Deepens.len:∀{r:List SV} {ds:List DC},Deepens r ds->ds.length=r.length
 | [],[],_=>rfl
 |s::r,d::ds,h=>by simp[Deepens.len h.2]
 | [],_::_,h=>h.elim
 |_::_,[],h=>h.elim
theorem Deepens.get:∀{r:List SV} {ds:List DC},Deepens r ds->∀{c:Nat} {d:DC},ds[c]?=some d->∃s,r[c]?=some s/\(d= .v s\/(s= .val (.slice none 0 0)/\∃e,d= .kid e []))
 |s::r,d::ds,h,0,d',hc=>by simp at hc;subst hc;exact⟨s,rfl,h.1⟩
 |s::r,d::ds,h,c+1,d',hc=>by simpa using Deepens.get h.2 (by simpa using hc)
 | [],[],_,c,d,hc=>by simp at hc
 | [],_::_,h,_,_,_=>h.elim
 |_::_,[],h,_,_,_=>h.elim
def Z0I(rs:List (List SV))(ds:List (List DC)):Prop:=ds.length=rs.length/\∀(a:Nat) (row':List DC),ds[a]?=some row'->∃row,rs[a]?=some row/\Deepens row row'
theorem GHO.deepen(i:Nat){es:Nat}{rs:List (List SV)}(ds:List (List DC))(hi:lkp i O=some (.rows es rs))(hd:Z0I rs ds):GHO M O nx (setK i (.deep false es ds) O) nx:=by
 refine⟨fun η w H=>⟨η,List.prefix_rfl,?_⟩⟩;have hsat:RowsSat η w true (.loc i) es rs:=(H.own.1 i _ hi).1
 have hkid:∀{a b x},Yd ds a b=some x->x.2=[]/\∃row,rs[a]?=some row/\row[b]?=some (.val (.slice none 0 0)):=by
  intro a b x hx;obtain⟨x1,x2⟩:=x;obtain⟨row',h1,h2⟩:=kidAt_some.1 hx;obtain⟨row,h3,h4⟩:=hd.2 a row' h1;obtain⟨s,h5,h6⟩:=h4.get h2;rcases h6 with h6|⟨rfl,e,h6⟩
  ·cases h6
  ·injection h6 with _ h6;exact⟨h6,row,h3,h5⟩
 have hcell:∀{e o a b x},η.get (.loc i)=some (some e)->w.heap[e.g]?=some o->Yd ds a b=some x->e.base=0/\x.2=[]/\ZF o es a b=some (.slice none 0 0):=by
  intro e o a b x he ho hx;obtain⟨h0,row,h1,h2⟩:=hkid hx;rcases hsat with⟨h3,_⟩|⟨e',arr,T,fz,h3,h4,h5,h6⟩
  ·rw[h3]at he;cases he
  rw[h3]at he;injection he with he;injection he with he;subst he
  rw[h4]at ho;injection ho with ho;subst ho
  have hb:=(h5 rfl).2.2.2;obtain⟨v,h7,_,h8⟩:=(h6 a row h1).2 b _ h2;rw[hb,Nat.zero_add]at h7;exact⟨hb,h0,by rw[<-h8.1];exact h7⟩
 refine H.anew hi (HpSat.deep_of (mp:=false) ?_ (fun h=>by cases h) fun e he=>?_) fun n f=>?_
 ·rcases hsat with⟨h3,h4⟩|⟨e',arr,T,fz,h3,h4,h5,h6⟩
  ·refine .inl ⟨h3,List.length_eq_zero_iff.1 ?_⟩;rw[Y7,hd.1,h4];rfl
  ·refine .inr ⟨e',arr,T,fz,h3,h4,fun h=>by have:=h5 h;rwa [Y7,hd.1],fun a row' ha=>?_⟩;rw[Y6]at ha;obtain⟨row1,h7,rfl⟩:=Option.map_eq_some_iff.1 ha;obtain⟨row,h8,h9⟩:=hd.2 a row1 h7;obtain⟨g1,g2⟩:=h6 a row h8;refine⟨by rw[List.length_map,h9.len];exact g1,fun c sv hc=>?_⟩;rw[List.getElem?_map]at hc;obtain⟨d,h10,rfl⟩:=Option.map_eq_some_iff.1 hc;obtain⟨s,h11,h12⟩:=h9.get h10;obtain⟨v,k1,k2,k3⟩:=g2 c s h11;rcases h12 with rfl|⟨rfl,e,rfl⟩
   ·exact⟨v,k1,k2,k3⟩
   ·exact⟨v,k1,k2,trivial⟩
 ·have hb:e.base=0:=by
   rcases hsat with⟨h3,_⟩|⟨e',arr,T,fz,h3,h4,h5,h6⟩
   ·rw[h3]at he;cases he
   ·rw[h3]at he;injection he with he;injection he with he;subst he;exact(h5 rfl).2.2.2
  refine⟨hb,fun o ho=>⟨fun a b es' rows hk=>?_,fun a b a' b' x x' v v' k h1 h2 h3 h4 h5 h6=>?_⟩⟩
  ·obtain⟨_,h1,h2⟩:=hcell he ho hk;simp only at h1;subst h1;exact⟨_,h2, .inl ⟨rfl,rfl⟩,by simp[Value.ownBlock]⟩
  ·obtain⟨_,_,g2⟩:=hcell he ho h1;rw[g2]at h3;injection h3 with h3;subst h3;cases h5
 ·obtain⟨e,he,f⟩:=f;rcases f with rfl|f
  ·exact feet.own he
  ·simp only[kid]at f;obtain⟨o,a,b,x,v,h1,h2,h3,h4⟩:=f;obtain⟨_,_,g2⟩:=hcell he h1 h2;rw[g2]at h3;injection h3 with h3;subst h3;cases h4
theorem GHO.nilk(i r c es':Nat){mp:Bool}{es:Nat}{rs:List (List DC)}{row:List DC}(hi:lkp i O=some (.deep mp es rs))(hr:rs[r]?=some row)(hc:row[c]?=some (.v (.val (.slice none 0 0)))):GHO M O nx (setK i (.deep mp es (setC rs r c (.kid es' []))) O) nx:=
 ⟨fun η w H=>⟨η,List.prefix_rfl,H.nilk hi hr hc⟩⟩
theorem GHO.take(i r c:Nat){mp:Bool}{es es':Nat}{rs:List (List DC)}{row:List DC}{rows:List (List SV)}(hi:lkp i O=some (.deep mp es rs))(hr:rs[r]?=some row)(hc:row[c]?=some (.kid es' rows)):
 GHO M O nx ((nx, .rows es' rows)::setK i (.deep mp es (setC rs r c (.v (.sl (.loc nx) 0 es' rows.length none)))) O) (nx+1):=
 ⟨fun η w H=>let⟨x,h⟩:=H.take hi hr hc;⟨η++ [x],List.prefix_append _ _,h⟩⟩
theorem LOOP.reach{body:Code}{Q:Post}(t:Tmp){k es n:Nat}(ht:lkp t fr=some (.sl (.loc k) 0 es n none))(hn:0<n)(hd:t≠DS)(K:∀L,n<=L->LOOP M body ((t, .sl (.loc k) 0 es n (some L))::fr) O nx Q):LOOP M body fr O nx Q:=by
 refine⟨fun η a w hm=>?_⟩;have h:=hm.frame t _ ht
 obtain⟨L,hL,hD⟩:∃L,n<=L/\Den η (.sl (.loc k) 0 es n (some L)) (a.tmps.getD t undef):=by
  simp only[Den]at h⊢;rcases h with⟨_,_,h0⟩|⟨e,o,h1,h2,h3,h4,h5⟩
  ·omega
  ·exact⟨e.cap,by simpa using h3, .inr ⟨e,o,h1,by simpa using h2,by simpa using h3,by simp,by simpa using h5⟩⟩
 refine(K L hL).out η a w ⟨hm.heap,hm.size,hm.nds,?_,hm.ro,fun t' v ht'=>?_⟩
 ·rw[Z6,if_neg (Ne.symm hd)];exact hm.defers
 ·rw[Z6]at ht';split at ht'
  ·rename_i e;subst e;injection ht' with ht';subst ht';exact hD
  ·exact hm.frame t' v ht'
theorem YF{rs:List (List DC)}{r:Nat}{d:DC}{sv:SV}(h:rs[r]?=some [d]):(Zs (setC rs r 0 (.v sv)))[r]?=some [sv]:=by
 rw[Y6,Yj,if_pos rfl,h];rfl
end
end Go.Sx
namespace Go.Sx
open Go
def LentIn(w:World)(v:Value)(es:Nat)(rs:List (List SV))(en:Option Ent):Prop:=
 (∀x,en=some x->x.g<w.heap.size)/\∀(η:Env) (i:Nat),η[i]?=some en->Den η (.sl (.loc i) 0 es rs.length none) v/\HpSat η w false (.loc i) (.rows es rs)
theorem LentIn.now{w w':World}{F:Nat->Prop}{v:Value}{es:Nat}{rs:List (List SV)}{en:Option Ent}(h:LentIn w v es rs en)(hf:FrW w w' F)(hF:∀k, ¬F k):LentIn w' v es rs en:=
 ⟨fun x hx=>Nat.lt_of_lt_of_le (h.1 x hx) hf.size,fun η i hi=>⟨(h.2 η i hi).1,(h.2 η i hi).2.keep fun k f=>by
  obtain⟨e,he,f⟩:=f;rw[show η.get (.loc i)=some en from hi]at he;injection he with he;rcases f with rfl|f
  ·exact hf.block _ (h.1 e he) (hF _)
  ·exact f.elim⟩⟩
theorem Z7Y{η η':Env}(hp:η<+:η'){v:Value}{x:SV}(hx:Den η' x v):∀{pre post:List SV} {vs:List Value},DenL η (pre++ .val v::post) vs->DenL η' (pre++x::post) vs
 | [],post,vs,h=>by
   simp only[List.nil_append,DenL]at h⊢;obtain⟨u,us,h1,h2,h3⟩:=h;simp only[Den]at h2;obtain⟨rfl,_⟩:=h2;exact⟨u,us,h1,hx,h3.mono hp⟩
 |c::pre,post,vs,h=>by
  simp only[List.cons_append,DenL]at h⊢;obtain⟨u,us,h1,h2,h3⟩:=h;exact⟨u,us,h1,h2.mono hp,Z7Y hp hx h3⟩
section
variable {M:Mx}{O:Hps}{nx:Nat}
theorem CALL.lent{f:FuncId}{args:List SV}{K:SV->Hps->Nat->Prop}{es:Nat}{rs:List (List SV)}{en:Option Ent}{v:Value}(pre post:List SV)(hv:LentIn M.w0 v es rs en)(hF:∀k, ¬M.F k)(ha:args=pre++ .val v::post)
 (hc:∀η1,CALL ⟨M.P,{M.C with S:=(.loc nx, .rows es rs)::M.C.S},M.w0,M.F,η1,none⟩ f (pre++ .sl (.loc nx) 0 es rs.length none::post) O (nx+1) K):CALL M f args O nx K:=by
 refine⟨fun η w vs H hd=>?_⟩;subst ha;have hpre:η<+:η++ [en]:=List.prefix_append _ _;have hnew:(η++ [en])[nx]?=some en:=by rw[List.getElem?_append_right (by rw[H.len];omega),H.len];simp
 obtain⟨h1,h2⟩:=hv.2 _ _ hnew
 have hold:∀{b h},lkS M.C b=some h->∀k,feet (η++ [en]) M.w0 b h k->feet M.η0 M.w0 b h k:=fun{b h} hb k f=>by
  obtain⟨x,hx,_⟩:=(H.sok b h hb).1.lt;exact f.less (H.pre.trans hpre) hx
 have H1:HeapOK ⟨M.P,{M.C with S:=(.loc nx, .rows es rs)::M.C.S},M.w0,M.F,η++ [en],none⟩ (η++ [en]) w O (nx+1):=by
  refine⟨List.prefix_rfl,by simp[H.len],⟨fun i h hi=>⟨(H.own.1 i h hi).1.mono hpre,fun k f=>(H.own.1 i h hi).2 k (H.stands hpre hi (fun _ _=>rfl) f)⟩,
   fun i j h h' k hi hj hne f f'=>H.own.2 i j h h' k hi hj hne (H.stands hpre hi (fun _ _=>rfl) f) (H.stands hpre hj (fun _ _=>rfl) f')⟩,H.fr,fun b h hb=>?_⟩
  have old:lkS M.C b=some h->HpSat (η++ [en]) M.w0 false b h/\∀k,feet (η++ [en]) M.w0 b h k->k<M.w0.heap.size/\¬M.F k:=fun hb=>
   ⟨(H.sok b h hb).1.mono (H.pre.trans hpre),fun k f=>(H.sok b h hb).2 k (hold hb k f)⟩
  cases b with
  |glob g=>exact old hb
  |loc i=>
   simp only[lkS,lkpB,WU]at hb;cases hi:Nat.beq i nx with
   |false=>rw[hi]at hb;exact old hb
   |true=>
    rw[hi]at hb;injection hb with hb;subst hb;have hi:=Zn hi;subst hi;refine⟨h2,fun k f=>⟨?_,hF k⟩⟩;obtain⟨e,he,f⟩:=f;rw[show(η++ [en]).get (.loc i)=some en from hnew]at he;injection he with he;have:=hv.1 e he;rcases f with rfl|f
    ·exact this
    ·exact f.elim
 refine((hc (η++ [en])).out (η++ [en]) w vs H1 (Z7Y hpre h1 hd)).mono fun v' w' ⟨r,O',nx',η',h3,h4,h5,h6⟩=>?_;exact⟨r,O',nx',η',hpre.trans h3,⟨(H.pre.trans hpre).trans h3,h4.len,h4.own,h4.fr,H.sok⟩,h5,h6⟩
variable {η:Env}{w:World}
end
structure RawIs(η:Env)(w:World)(i es:Nat)(rs:List (List DC))(R:List (List SV)):Prop where
 sat:HpSat η w false (.loc i) (.rows es R)
 len:R.length=rs.length
 cv:∀(r c:Nat) (row:List DC) (sv:SV),rs[r]?=some row->row[c]?=some (DC.v sv)->∃rw:List SV,R[r]?=some rw/\rw[c]?=some sv
 ck:∀(r c:Nat) (row:List DC) (es':Nat) (rows:List (List SV)),rs[r]?=some row->row[c]?=some (DC.kid es' rows)->∃(rw:List SV) (v:Value),R[r]?=some rw/\rw[c]?=some (SV.val v)/\KidSat η w v es' rows
 lens:∀(r:Nat) (row:List DC) (rw:List SV),rs[r]?=some row->R[r]?=some rw->rw.length=row.length
def WS(arr:Array Value)(o:Nat):Nat->List DC->List SV
 |_,[]=>[]
 |j, .v sv::r=>sv::WS arr o (j+1) r
 |j, .kid _ _::r=> .val (arr.getD (o+j) undef)::WS arr o (j+1) r
theorem Wv(arr:Array Value)(o:Nat):∀(j:Nat) (r:List DC),(WS arr o j r).length=r.length
 |_,[]=>rfl
 |j, .v sv::r=>by simp[WS,Wv arr o (j+1) r]
 |j, .kid _ _::r=>by simp[WS,Wv arr o (j+1) r]
theorem VZ(arr:Array Value)(o:Nat):∀(r:List DC) (j c:Nat),(WS arr o j r)[c]?=(r[c]?).map fun d=>match d with| .v sv=>sv| .kid _ _=> .val (arr.getD (o+(j+c)) undef)
 | [],j,c=>by simp[WS]
 | .v sv::r,j,0=>rfl
 | .kid _ _::r,j,0=>rfl
 | .v sv::r,j,c+1=>by
   simp only[WS,List.getElem?_cons_succ];rw[VZ arr o r (j+1) c];cases r[c]? with
   |none=>rfl
   |some d=>cases d<;>simp only[Option.map_some];rw[show j+1+c=j+(c+1)by omega]
 | .kid _ _::r,j,c+1=>by
   simp only[WS,List.getElem?_cons_succ];rw[VZ arr o r (j+1) c];cases r[c]? with
   |none=>rfl
   |some d=>cases d<;>simp only[Option.map_some];rw[show j+1+c=j+(c+1)by omega]
theorem Zdy{η:Env}{w:World}{i es:Nat}{rs:List (List DC)}(d:HpSat η w true (.loc i) (.deep false es rs)):∃R,RawIs η w i es rs R:=by
 simp only[HpSat]at d;obtain⟨h1,h2⟩:=d;rcases h1 with⟨hn,h0⟩|⟨e,arr,T,fz,he,ho,hown,hc⟩
 ·have h0:rs=[]:=by simpa[Zs]using h0
  subst h0;refine⟨[],?_,rfl,fun r c row sv h=>by simp at h,fun r c row es' rows h=>by simp at h,fun r row rw h=>by simp at h⟩;simp only[HpSat];exact .inl ⟨hn,trivial⟩
 obtain⟨hb,hk⟩:=h2 e he;have hK:=hk _ ho
 have hrow:∀(r:Nat) (row:List DC),rs[r]?=some row->row.length=es/\CellsAt η arr (e.base+r*es) (row.map ZN):=fun r row hr=>by
  have:=hc r (row.map ZN) (by unfold Zs;rw[List.getElem?_map,hr];rfl);rw[List.length_map]at this;exact this
 have hkid:∀(r c:Nat) (row:List DC) (es':Nat) (rows:List (List SV)),rs[r]?=some row->row[c]?=some (.kid es' rows)->KidSat η w (arr.getD (e.base+r*es+c) undef) es' rows/\(arr.getD (e.base+r*es+c) undef).oneCell'=true/\arr[e.base+r*es+c]?=some (arr.getD (e.base+r*es+c) undef):=fun r c row es' rows hr hc'=>by
  obtain⟨v,h3,h4,_⟩:=hK.sat r c es' rows (kidAt_some.2 ⟨row,hr,hc'⟩);obtain⟨u,h5,h6,_⟩:=(hrow r row hr).2 c .any (by rw[List.getElem?_map,hc'];rfl);simp only[ZF]at h3;rw[hb,Nat.zero_add]at h5⊢;rw[h3]at h5;injection h5 with h5;subst h5;have:arr.getD (r*es+c) undef=v:=by rw[Array.getD_eq_getD_getElem?,h3];rfl
  rw[this];exact⟨h4,h6,h3⟩
 refine⟨(List.range rs.length).map fun r=>WS arr (e.base+r*es) 0 (rs.getD r []),?_,by simp,?_,?_,?_⟩
 ·simp only[HpSat];refine .inr ⟨e,arr,T,fz,he,ho,(fun h=>by cases h),fun r rw1 hr=>?_⟩;rw[List.getElem?_map]at hr;obtain⟨r',h3,rfl⟩:=Option.map_eq_some_iff.1 hr;obtain⟨h4,rfl⟩:=List.getElem?_eq_some_iff.1 h3;rw[List.length_range]at h4;simp only[List.getElem_range];have hg:rs[r]?=some (rs.getD r []):=by rw[List.getD_eq_getElem?_getD,List.getElem?_eq_getElem h4];rfl
  obtain⟨h5,h6⟩:=hrow r _ hg;refine⟨by rw[Wv,h5],fun c sv hcv=>?_⟩;rw[VZ]at hcv;obtain⟨d,h7,h8⟩:=Option.map_eq_some_iff.1 hcv;cases d with
  |v s=>
   simp only at h8;subst h8;exact h6 c s (by rw[List.getElem?_map,h7];rfl)
  |kid es' rows=>
   simp only at h8;subst h8;obtain⟨_,k2,k3⟩:=hkid r c _ es' rows hg h7;rw[Nat.zero_add];exact⟨_,k3,k2,by simp only[Den];exact⟨trivial,k2⟩⟩
 ·intro r c row sv hr hcv;have h4:=(List.getElem?_eq_some_iff.1 hr).1;refine⟨_,by rw[List.getElem?_map,List.getElem?_range h4];rfl,?_⟩;rw[VZ,List.getD_eq_getElem?_getD,hr,Option.getD_some,hcv];rfl
 ·intro r c row es' rows hr hcv;have h4:=(List.getElem?_eq_some_iff.1 hr).1;refine⟨_,arr.getD (e.base+r*es+c) undef,by rw[List.getElem?_map,List.getElem?_range h4];rfl,?_,(hkid r c row es' rows hr hcv).1⟩;rw[VZ,List.getD_eq_getElem?_getD,hr,Option.getD_some,hcv];simp only[Option.map_some,Nat.zero_add]
 ·intro r row rw1 hr h3;have h4:=(List.getElem?_eq_some_iff.1 hr).1;rw[List.getElem?_map,List.getElem?_range h4]at h3;injection h3 with h3;rw[<-h3,Wv,List.getD_eq_getElem?_getD,hr];rfl
theorem Zal{η:Env}{w:World}{v:Value}{es:Nat}{rows:List (List SV)}(h:KidSat η w v es rows)(hp:Zh rows=true):∃en,LentIn w v es rows en:=by
 rcases h with⟨rfl,rfl⟩|⟨g,cap,arr,T,fz,rfl,k2,k3,k4,k5,k6⟩
 ·refine⟨none,(fun x h=>by cases h),fun η' i hi=>⟨?_,?_⟩⟩
  ·simp only[Den];exact .inl ⟨hi,trivial,rfl⟩
  ·simp only[HpSat];exact .inl ⟨hi,trivial⟩
 ·refine⟨some ⟨g,0,cap⟩,fun x h=>?_,fun η' i hi=>⟨?_,?_⟩⟩
  ·injection h with h;subst h;exact(Array.getElem?_eq_some_iff.1 k2).1
  ·simp only[Den];exact .inr ⟨⟨g,0,cap⟩,0,hi,by simp,by simpa using k5,Nat.le_refl _,fun _=>by simp⟩
  ·simp only[HpSat];refine .inr ⟨⟨g,0,cap⟩,arr,T,fz,hi,k2,(fun h=>by cases h),fun r row hr=>?_⟩;obtain⟨h1,h2⟩:=k6 r row hr;exact⟨h1,h2.plain (Jd hp hr)⟩
def Z4u(M:Mx)(O:Hps)(η:Env)(w:World)(i es:Nat)(R:List (List SV)):Mx:=⟨M.P,{M.C with S:=(.loc i, .rows es R)::(Z4O M.C O).S},w,fun _=>False,η,none⟩
section
variable {M:Mx}{η:Env}{w:World}{O:Hps}{nx:Nat}
theorem HeapOK.raw(H:HeapOK M η w O nx){i es:Nat}{R:List (List SV)}(hs:HpSat η w false (.loc i) (.rows es R)):HeapOK (Z4u M O η w i es R) η w [] nx:=by
 refine⟨List.prefix_rfl,H.len,⟨fun i h hi=>by simp[lkp]at hi,fun i j h h' n hi=>by simp[lkp]at hi⟩,FrW.refl _ _,fun b h hb=>?_⟩
 have go:Yp M.C O b=some h->HpSat η w false b h/\∀k,feet η w b h k->k<w.heap.size/\¬False:=fun hb=>by
  have hsat:=H.look hb;exact⟨hsat,fun k f=>⟨hsat.feet_lt f,fun h=>h⟩⟩
 cases b with
 |glob g=>exact go (by rw[<-Z15];exact hb)
 |loc j=>
  simp only[Z4u,lkS,lkpB,WU]at hb;cases e:Nat.beq j i with
  |false=>rw[e]at hb;exact go (by rw[<-Z15];exact hb)
  |true=>
   rw[e]at hb;injection hb with hb;subst hb;have:=Zn e;subst this;exact⟨hs,fun k f=>⟨hs.feet_lt f,fun h=>h⟩⟩
structure QCALL(M:Mx)(f:FuncId)(args:List SV)(O:Hps)(nx:Nat)(r:SV):Prop where
 out:∀η w vs,HeapOK M η w O nx->DenL η args vs->Invokes M.P f ⟨vs⟩ w fun v w'=>Den η r v/\FrW w w' fun _=>False
theorem HeapOK.grewQ(H:HeapOK M η w O nx){w':World}(hf:FrW w w' fun _=>False):HeapOK M η w' O nx:=by
 have hk:∀{i h},lkp i O=some h->∀k,feet η w (.loc i) h k->w'.heap[k]?=w.heap[k]?:=fun hi k f=>hf.block k ((H.own.1 _ _ hi).1.feet_lt f) (fun h=>h);have hb:∀{i h},lkp i O=some h->∀k,feet η w' (.loc i) h k->feet η w (.loc i) h k:=fun hi k f=>H.stands List.prefix_rfl hi (hk hi) f;exact⟨H.pre,H.len,⟨fun i h hi=>⟨(H.own.1 i h hi).1.keep (hk hi),fun k f=>(H.own.1 i h hi).2 k (hb hi k f)⟩,fun i j h h' k hi hj hij f f'=>H.own.2 i j h h' k hi hj hij (hb hi k f) (hb hj k f')⟩,H.fr.trans hf (fun n h=>h.elim),H.sok⟩
theorem CALL.quiet{f:FuncId}{args:List SV}{r:SV}{K:SV->Hps->Nat->Prop}(h:QCALL M f args O nx r)(hK:K r O nx):CALL M f args O nx K:=
 ⟨fun η w vs H hd=>(h.out η w vs H hd).mono fun v w' ⟨h1,h2⟩=>⟨r,O,nx,η,List.prefix_rfl,H.grewQ h2,h1,hK⟩⟩
theorem QCALL.raw{f:FuncId}{args:List SV}{r:SV}{i es:Nat}{rs:List (List DC)}(hi:lkp i O=some (.deep false es rs))(hp:plain r=true)
 (h:∀η w R,HeapOK M η w O nx->RawIs η w i es rs R->CALL (Z4u M O η w i es R) f args [] nx fun r' _ _=>r'=r):QCALL M f args O nx r:=by
 refine⟨fun η w vs H hd=>?_⟩;obtain⟨R,hR⟩:=Zdy (H.own.1 i _ hi).1;refine((h η w R H hR).out η w vs (H.raw hR.sat) hd).mono fun v w' ⟨r',O',nx',η',_,h4,h5,h6⟩=>?_;subst h6;exact⟨Den.unren (σ:=id) (k:=0) (fun i x hi=>by omega) (XI 0 hp) (by rw[Xf _ hp];exact h5),h4.fr⟩
theorem CALL.ofW{G:World->Prop}{f:FuncId}{args:List SV}{K:SV->Hps->Nat->Prop}{k:Nat}{argsc:List SV}{Oc Sc:Hps}{Q:SV->Hps->Nat->Prop}(L:List Nat)(sp:DoesW G M.P M.C.T f k argsc Oc Sc Q)(hG:∀η w,HeapOK M η w O nx->G w)
 (hL:L.length=k) (hLn:∀i∈L,i<nx) (ha:args=renL (Zi L nx) argsc) (hb:ZM k argsc=true)
 (hO:∀p∈Oc,p.1<k/\lkp (Zi L nx p.1) O=some (renH (Zi L nx) p.2)/\Zg k p.2=true)
 (hOn:∀j∈Za Oc,∀j'∈Za Oc,Zi L nx j=Zi L nx j'->j=j')
 (hS:∀p∈Sc,p.1<k/\Yp M.C O (.loc (Zi L nx p.1))=some (renH (Zi L nx) p.2)/\Zg k p.2=true/\Zi L nx p.1∉ (Za Oc).map (Zi L nx))
 (hK:∀r O' nx',Q r O' nx'->K (ren (Zi L nx) r) (renO (Zi L nx) O'++ZV ((Za Oc).map (Zi L nx)) O) (nx+(nx'-k))):CALL M f args O nx K:=by
 refine⟨fun η w vs H hd=>?_⟩;obtain⟨Mc,h1,h2,h3,h4,h5,h6,h7,h8⟩:=Z14 L hL hLn ha hb hO hOn hS H hd;refine(h1▸h5▸(sp.out Mc vs h1 h2 h3 h4 h6 h7 (h5▸hG η w H))).mono ?_;rintro v w' ⟨r,O',nx',η',hq,hpre,H',hdr⟩;obtain⟨η2,k1,k2,k3⟩:=h8 r O' nx' η' v w' hpre H' hdr;exact⟨_,_,_,η2,k1,k2,k3,hK r O' nx' hq⟩
end
end Go.Sx
namespace Go.Sx
open Go Go.Sort Go.Shelf Go.Proofs Go.Our
def ZT(x:Nat):List SV:=[.int .i64 (x:Int)]
instance :PlF ZT:=⟨fun _=>rfl⟩
section
variable {M:Mx}{η:Env}{w:World}{O:Hps}{nx:Nat}
theorem HeapOK.other(H:HeapOK M η w O nx){w':World}{j:Nat}{h0:Hp}(hj:lkp j O=some h0){e:Ent}(he:η[j]?=some (some e))(hother:∀k,k<w.heap.size->k≠e.g->w'.heap[k]?=w.heap[k]?)(hsz:w.heap.size<=w'.heap.size)
 (ho:w'.os=w.os) (ht:w'.tape=w.tape) (hp:w'.output=w.output) (hdr:w.drawn<=w'.drawn):HeapOK M η w' (delK j O) nx:=by
 have fi:feet η w (.loc j) h0 e.g:=feet.own he
 have back:∀{i h},lkp i (delK j O)=some h->i≠j/\lkp i O=some h:=fun{i h} hi=>by
  have hne:i≠j:=fun e=>by subst e;rw[Yw]at hi;cases hi
  exact⟨hne,by rw[<-Vn j O i hne];exact hi⟩
 have keep:∀{i h},lkp i (delK j O)=some h->∀k,feet η w (.loc i) h k->w'.heap[k]?=w.heap[k]?:=fun{i h} hi k f=>
  hother k ((H.own.1 i h (back hi).2).1.feet_lt f) fun hk=>H.own.2 i j h h0 k (back hi).2 hj (back hi).1 f (hk▸fi)
 have bk:∀{i h},lkp i (delK j O)=some h->∀k,feet η w' (.loc i) h k->feet η w (.loc i) h k:=fun{i h} hi k f=>H.stands List.prefix_rfl (back hi).2 (keep hi) f
 refine⟨H.pre,H.len,⟨fun i h hi=>⟨(H.own.1 i h (back hi).2).1.keep (keep hi),fun k f=>(H.own.1 i h (back hi).2).2 k (bk hi k f)⟩,fun i i' h h' k hi hi' hne f f'=>H.own.2 i i' h h' k (back hi).2 (back hi').2 hne (bk hi k f) (bk hi' k f')⟩,
  ⟨ho.trans H.fr.os,ht.trans H.fr.tape,hp.trans H.fr.output,Nat.le_trans H.fr.drawn hdr,Nat.le_trans H.fr.size hsz,fun k hk hF=>?_⟩,H.sok⟩
 rw[hother k (Nat.lt_of_lt_of_le hk H.fr.size) ?_]
 ·exact H.fr.block k hk hF
 ·intro hke;subst hke;rcases H.ownF hj he with h1|h1
  ·exact hF h1
  ·omega
end
section
variable {α:Type}[Inhabited α](enc:α->Value)
theorem Us(w:World)(blk m:Nat)(d:Array α):(putRow enc (Sort.ahead w m) blk 0 d).heap=(mapBlock w blk (putCells enc 0 d)).heap:=by simp[putRow,mapBlock,Sort.ahead]
theorem WT(w:World)(blk m:Nat)(d:Array α){g:Nat}(hne:g≠blk):(putRow enc (Sort.ahead w m) blk 0 d).heap[g]?=w.heap[g]?:=by
 rw[Us];simp only[mapBlock,Array.getElem?_modify];rw[if_neg (fun h=>hne h.symm)]
theorem Z7Z(w:World)(blk m:Nat)(d:Array α){c:Array Value}{T:TypeId}{fz:Nat×Nat}(h:w.heap[blk]?=some (.cells c T fz)):(putRow enc (Sort.ahead w m) blk 0 d).heap[blk]?=some (.cells (putCells enc 0 d c) T fz):=by
 rw[Us];simp only[mapBlock,Array.getElem?_modify,if_true,h,Option.map_eq_map,Option.map_some,onCells]
theorem Z0O(w:World)(blk m:Nat)(d:Array α):(putRow enc (Sort.ahead w m) blk 0 d).heap.size=w.heap.size:=by rw[Us];simp[mapBlock]
end
theorem Zam(w:World)(os:Array Obj):FrW w (grow w os) fun _=>False:=
 ⟨rfl,rfl,rfl,Nat.le_refl _,by simp[grow],fun k hk _=>by simp only[grow];exact Array.getElem?_append_left hk⟩
theorem ZgL{α:Type}{c:α->α->Int}(h:Pre c):SWO (ltOf c) where
 irrefl x:=by unfold ltOf;have:=h.refl x;simp;omega
 trans x y z h1 h2:=by
  unfold ltOf at*;simp only[decide_eq_true_eq]at*;exact h.lt_le h1 (by omega)
 ntrans x y z h1 h2:=by
  unfold ltOf at*;simp only[decide_eq_false_iff_not]at*;have a1:=h.anti x y;have a2:=h.anti y z;have a3:=h.anti x z;have:=h.trans z y x (by omega) (by omega);omega
theorem CALL.sortC{M:Mx}{O:Hps}{nx:Nat}{P:Program}{ρ:Ren}(L:SlLaysF.n6 P ρ)(ef:∀args w,(callFunc (ρ.f 6) args).run P w= .ok (.enter (ρ.f 6) args) w){g:FuncId}(eg:∀args w,(callFunc g args).run P w= .ok (.enter g args) w){f6:FuncId}(hf6:f6=ρ.f 6)(hP:M.P=P)
 {caps:List SV} {cf:Nat->Nat->Int} {l:List Nat} {n i len:Nat} {K:SV->Hps->Nat->Prop} (hlen:len=l.length) (hi:lkp i O=some (.rows 1 (l.map ZT))) (hn:∀x∈l,x<n) (hl:l.length<4611686018427387904) (hc:Pre cf)
 (hq:∀x y,x<n->y<n->QCALL M g ([.int .i64 (x:Int), .int .i64 (y:Int)]++caps) (delK i O) nx (.int .i64 (cf x y)))
 (hK:∀l':List Nat,l'.Perm l->l'.Pairwise (fun a b=>cf a b<=0)->K (.tup []) (setK i (.rows 1 (l'.map ZT)) O) nx):CALL M f6 [.sl (.loc i) 0 1 len none, .fn (.func g) [] caps] O nx K:=by
 subst hlen hP hf6;refine⟨fun η w vs H hd=> .inl ⟨ρ.f 6,ef _ _,?_⟩⟩;simp only[DenL]at hd;obtain⟨v,us,rfl,hv,f,us',rfl,hf,rfl⟩:=hd;simp only[Den]at hf;obtain⟨ff,fc,rfl,hff,hfc⟩:=hf;simp only[DenL]at hff;subst hff;have hsat:=(H.own.1 i _ hi).1;simp only[HpSat]at hsat;simp only[Den]at hv;by_cases l0:l=[]
 ·subst l0
  have hset:HeapOK M η w (setK i (.rows 1 []) O) nx:=by
   have aux:∀(j:Nat) (h:Hp),lkp j (setK i (.rows 1 []) O)=some h->lkp j O=some h:=fun j h hj=>by
    rw[ZX _ _ _ _ (by rw[hi];rfl)]at hj;split at hj
    ·rename_i e;subst e;rw[<-hj];exact hi
    ·exact hj
   exact{pre:=H.pre,len:=H.len,sok:=H.sok,fr:=H.fr,own:=⟨fun j h hj=>H.own.1 j h (aux j h hj),fun j k h h' m hj hk=>H.own.2 j k h h' m (aux j h hj) (aux k h' hk)⟩}
  obtain⟨p,cap,rfl⟩:∃p cap,v= .slice p 0 cap:=by
   rcases hv with⟨_,h,_⟩|⟨e,o,_,h,_⟩
   ·exact⟨_,_,h⟩
   ·exact⟨_,_,h⟩
  refine(AnyF.slices_SortFunc_none {L with} p cap _ w).mono ?_;rintro e w' ⟨rfl,rfl⟩;exact⟨_,rfl, .tup [],_,nx,η,List.prefix_rfl,hset,by simp only[Den,DenL];exact⟨[],rfl,rfl⟩,hK [] (List.Perm.refl _) List.Pairwise.nil⟩
 rcases hsat with⟨_,h⟩|⟨e,arr,Tt,fz,he,hheap,hown,hcells⟩
 ·exact(l0 (by simpa using h)).elim
 obtain⟨x0,hx0⟩:=List.exists_mem_of_ne_nil l l0;have hn0:0<n:=Nat.lt_of_le_of_lt (Nat.zero_le _) (hn x0 hx0);obtain⟨hun,hsz,hle,hb0⟩:=hown trivial;rw[List.length_map]at hle
 obtain⟨hel,hvv⟩:l.length<=e.cap/\v= .slice (some ⟨e.g,0,none⟩) l.length e.cap:=by
  rcases hv with⟨h,_⟩|⟨e',o,h,h2,h3,h4,h5⟩
  ·rw[he]at h;cases h
  ·rw[he]at h;cases h;simp only[Option.getD_none,Nat.zero_add,Nat.sub_zero]at h2 h3;have:=h5 (.inr trivial);rw[hb0]at this;simp only[Nat.zero_mul,Nat.add_zero]at this;subst this;exact⟨h3,h2⟩
 subst hvv;have he':η[i]?=some (some e):=he;have hblk:e.g<w.heap.size:=(Array.getElem?_eq_some_iff.1 hheap).1;have hsize:l.length<=arr.size:=by rw[hsz];omega
 haveI:Inhabited (Fin n):=⟨⟨0,hn0⟩⟩;obtain⟨enc,henc⟩:∃enc:Fin n->Value,enc=fun x=> .int .i64 ((x.val:Nat):Int):=⟨_,rfl⟩;obtain⟨lF,hlF⟩:∃lF:List (Fin n),lF.map (·.val)=l:=⟨l.pmap (fun x h=>⟨x,h⟩) hn,by rw[List.map_pmap];simp⟩;have hll:lF.length=l.length:=by rw[<-hlF,List.length_map]
 have hcell:∀(t:Nat) (x:Nat),l[t]?=some x->arr[t]?=some (.int .i64 (x:Int)):=by
  intro t x ht;obtain⟨h1,h2⟩:=hcells t (ZT x) (by rw[List.getElem?_map,ht];rfl);obtain⟨u,h3,h4,h5⟩:=h2 0 (.int .i64 (x:Int)) rfl;rw[hb0,Nat.zero_add,Nat.mul_one,Nat.add_zero]at h3;simp only[Den]at h5;rw[h3,h5]
 have hH:Holds enc w e.g 0 lF.toArray:=by
  intro t ht;rw[List.size_toArray]at ht;have h4:=hcell t (lF[t]).val (by rw[<-hlF,List.getElem?_map,List.getElem?_eq_getElem ht];rfl);refine⟨by rw[Nat.zero_add,Z5O hheap,h4,henc];simp[ht],?_⟩;have:=hun t (by omega);simp only[World.frozen?,hheap,Nat.zero_add];simpa using this
 have hcmp:CmpLays1 M.P g ⟨fc⟩ enc (fun x y=>cf x.val y.val) e.g 0 lF.toArray.size w:=by
  intro m os dk hdk x y
  have H':HeapOK M η (sortWorld enc w e.g 0 m dk os) (delK i O) nx:=by
   have h1:HeapOK M η (putRow enc (Sort.ahead w m) e.g 0 dk) (delK i O) nx:=H.other hi he' (fun k _ hne=>WT enc w e.g m dk hne) (by rw[Z0O];exact Nat.le_refl _) rfl rfl rfl (by simp[putRow,Sort.ahead,mapBlock]);exact h1.grewQ (Zam _ os)
  have hd':DenL η ([.int .i64 ((x.val:Nat):Int), .int .i64 ((y.val:Nat):Int)]++caps) (enc x::enc y::fc):=by
   simp only[List.cons_append,List.nil_append,DenL,Den];exact⟨_,_,by rw[henc],rfl,_,_,rfl,rfl,hfc⟩
  rcases(hq x.val y.val x.2 y.2).out η _ _ H' hd' with⟨g',h1,h2⟩|⟨v,w',h1,_⟩
  ·rw[eg]at h1;injection h1 with h1 _;injection h1 with h1 _;subst h1;refine(show #[enc x,enc y]++(⟨fc⟩:Array Value)=⟨enc x::enc y::fc⟩by simp)▸h2.mono ?_;rintro e w' ⟨v,rfl,hv,hf⟩;simp only[Den]at hv;subst hv;exact⟨rfl,hf.grown⟩
  ·rw[eg]at h1;cases h1
 have hpc:Pre (fun x y:Fin n=>cf x.val y.val):=⟨fun a b=>hc.anti _ _,fun a b d=>hc.trans _ _ _⟩;have hmain:=Any.slices_SortFunc L enc (fun x=>by rw[henc];rfl) (fun x y:Fin n=>cf x.val y.val) (ZgL hpc) g ⟨fc⟩ e.g 0 e.cap lF.toArray w eg hcmp hH hblk (by rw[List.size_toArray,hll];exact hl);rw[List.size_toArray,hll]at hmain;refine hmain.mono ?_;rintro e1 w' ⟨rfl,d',m,os,hP,hS,rfl⟩;obtain⟨p1,_,p3⟩:=hP;have p1:d'.size=l.length:=by rw[<-hll];simpa using p1
 have hperm:(d'.toList.map (·.val)).Perm l:=by
  rw[<-hlF];refine List.Perm.map _ ?_;have e1:d'.extract 0 l.length=d':=by rw[<-p1];simp
  have e2:lF.toArray.extract 0 l.length=lF.toArray:=by rw[<-hll];simp
  rw[e1,e2]at p3;exact p3
 have hget:∀(t:Nat) (ht:t<l.length),d'[t]! =d'[t]'(by omega):=fun t ht=>by rw[getElem!_pos d' t (by omega)]
 have hpw:(d'.toList.map (·.val)).Pairwise fun a b=>cf a b<=0:=by
  rw[List.pairwise_map,List.pairwise_iff_getElem];intro a b ha hb hab;simp only[Array.length_toList,p1]at ha hb;have:=hS a b (Nat.zero_le _) hab hb;rw[hget a ha,hget b hb]at this;unfold ltOf at this;have h2:=hc.anti (d'[b]'(by omega)).val (d'[a]'(by omega)).val;simp only[decide_eq_false_iff_not]at this;simp only[Array.getElem_toList];omega
 refine⟨_,rfl, .tup [],_,nx,η,List.prefix_rfl,?_,by simp only[Den,DenL];exact⟨[],rfl,rfl⟩,hK _ hperm hpw⟩;refine HeapOK.grewQ (w:=putRow enc (Sort.ahead w m) e.g 0 d') ?_ (Zam _ os);refine H.upd hi he' (fun k hne=>WT enc w e.g m d' hne) (Z0O ..) rfl rfl rfl ?_ (by simp[putRow,Sort.ahead,mapBlock]);simp only[HpSat];refine .inr ⟨e,_,Tt,fz,he,Z7Z enc w e.g m d' hheap,fun _=>⟨?_,?_,?_,hb0⟩,fun t rw1 ht=>?_⟩
 ·simp only[putCells,Array.size_mapIdx];exact hun
 ·simp only[putCells,Array.size_mapIdx];exact hsz
 ·rw[List.length_map,List.length_map,Array.length_toList,p1];exact hel
 ·rw[List.getElem?_map,List.getElem?_map]at ht;obtain⟨x,hx,rfl⟩:=Option.map_eq_some_iff.1 ht;obtain⟨y,hy,rfl⟩:=Option.map_eq_some_iff.1 hx;refine⟨rfl,fun j sv hj=>?_⟩;have htl:t<l.length:=by have:=(List.getElem?_eq_some_iff.1 hy).1;rw[Array.length_toList,p1]at this;exact this
  match j,hj with
  |0,hj=>
   simp only[ZT,List.getElem?_cons_zero,Option.some.injEq]at hj;subst hj;refine⟨.int .i64 ((y.val:Nat):Int),?_,rfl,by simp only[Den]⟩;have hlt:t<arr.size:=by omega
   rw[hb0,Nat.zero_add,Nat.mul_one,Nat.add_zero];have hye:d'[t]! =y:=by rw[hget t htl];have:=(List.getElem?_eq_some_iff.1 hy).2;rw[<-this,Array.getElem_toList]
   have hcond:t<0+d'.size:=by omega
   simp only[putCells,Array.getElem?_mapIdx,Array.getElem?_eq_getElem hlt,Option.map_some,Nat.zero_le,true_and,Nat.zero_add,p1,htl,if_true,Nat.sub_zero,hye,henc]
end Go.Sx
namespace Go.Our
open Go Go.Sx
section
variable {α:Type}{es:Nat}{f:α->List SV}
def kD(es:Nat)(f:α->List SV)(ss:List (List α)):List (List DC):=ss.map fun l=>[.kid es (l.map f)]
theorem Zdz[p:PlF f]:∀ss:List (List α),Zt (kD es f ss)=true
 | []=>rfl
 |l::ss=>by simp only[kD,List.map_cons,Zt,Ys,JL,Zz f p.h l,Bool.and_self,Bool.true_and];exact Zdz ss
instance [PlF f]{ss:List (List α)}:PlD (kD es f ss):=⟨Zdz ss⟩
theorem Zi9{ss:List (List α)}{i k:Nat}(h:i<ss.length)(hk:k=i):(kD es f ss)[k]?=some [.kid es (ss[i].map f)]:=by
 subst hk;unfold kD;rw[List.getElem?_map,List.getElem?_eq_getElem h];rfl
theorem Zf0{ss:List (List α)}{i k:Nat}{rows:List (List SV)}{n:Nat}{l:List α}(hk:k=i)(hr:rows.take n=l.map f):(kD es f ss).modify k (fun row=>row.set 0 (.kid es (rows.take n)))=kD es f (ss.set i l):=by
 subst hk;rw[hr];unfold kD;apply List.ext_getElem?;intro a;rw[List.getElem?_modify,List.getElem?_map,List.getElem?_map,List.getElem?_set];by_cases ha:k=a
 ·subst ha;rw[if_pos rfl];cases h:ss[k]? with
  |none=>rw[if_neg (by rw[List.getElem?_eq_none_iff]at h;omega)];simp
  |some x=>rw[if_pos (List.getElem?_eq_some_iff.1 h).1];simp
 ·rw[if_neg ha];cases ss[a]?<;>simp[ha]
theorem Z0c{ss:List (List α)}{i k:Nat}{sv:SV}(h:i<ss.length)(hk:k=i):(setC (kD es f ss) k 0 (.v sv))[i]?=some [.v sv]:=by
 subst hk;rw[Yj,if_pos rfl,Zi9 h rfl];rfl
theorem ZdA{ss:List (List α)}{i k n:Nat}{sv:SV}(h:i<ss.length)(hk:k=i)(hn:n=ss[i].length):setC (setC (kD es f ss) k 0 (.v sv)) i 0 (.kid es ((ss[i].map f).take n))=kD es f ss:=by
 subst hk hn;rw[setC_setC,List.take_of_length_le (by rw[List.length_map];exact Nat.le_refl _)];apply List.ext_getElem?;intro a;rw[Yj];by_cases ha:a=k
 ·subst ha;rw[if_pos rfl,Zi9 h rfl];rfl
 ·rw[if_neg ha]
end
end Go.Our
namespace Go.Sx
open Go
section
variable {M:Mx}{O:Hps}{nx:Nat}
theorem CALL.part{f:FuncId}{K:SV->Hps->Nat->Prop}{es n o i:Nat}{rs:List (List SV)}{lim:Option Nat}(hb:lkS M.C (.loc i)=some (.rows es rs))(hn:0<n)
 (hc:∀η1,CALL ⟨M.P,{M.C with S:=(.loc nx, .rows es (rs.drop o))::M.C.S},M.w0,M.F,η1,none⟩ f [.sl (.loc nx) 0 es n none] O (nx+1) K):CALL M f [.sl (.loc i) o es n lim] O nx K:=by
 refine⟨fun η w vs H hd=>?_⟩;simp only[DenL,Den]at hd;obtain⟨v,us,rfl,hv,rfl⟩:=hd;rcases hv with⟨_,_,h0⟩|⟨e,o',he,hv,hle,hcap,hof⟩
 ·omega
 obtain⟨hsat,hft⟩:=H.sok _ _ hb;have hx:∃x:Ent,x=⟨e.g,e.base+o*es,lim.getD e.cap-o⟩:=⟨_,rfl⟩;obtain⟨x,hx⟩:=hx;have hpre:η<+:η++ [some x]:=List.prefix_append _ _;have hnew:(η++ [some x])[nx]?=some (some x):=by rw[List.getElem?_append_right (by rw[H.len];omega),H.len];simp
 have hsat2:HpSat (η++ [some x]) M.w0 false (.loc i) (.rows es rs):=hsat.mono (H.pre.trans hpre);have he2:(η++ [some x]).get (.loc i)=some (some e):=Env.get_mono hpre he
 have he0:M.η0.get (.loc i)=some (some e):=by
  obtain⟨y,hy,_⟩:=hsat.lt;have:=(Env.get_mono H.pre hy).symm.trans he;rw[hy,this]
 have hlt:e.g<M.w0.heap.size/\¬M.F e.g:=hft _ (feet.own he0)
 have hold:∀{b h},lkS M.C b=some h->∀k,feet (η++ [some x]) M.w0 b h k->feet M.η0 M.w0 b h k:=fun{b h} hb k f=>by
  obtain⟨y,hy,_⟩:=(H.sok b h hb).1.lt;exact f.less (H.pre.trans hpre) hy
 have h2:HpSat (η++ [some x]) M.w0 false (.loc nx) (.rows es (rs.drop o)):=by
  simp only[HpSat]at hsat2⊢;rcases hsat2 with⟨h3,_⟩|⟨e',arr,T,fz,h3,h4,_,h6⟩
  ·rw[he2]at h3;cases h3
  ·rw[he2]at h3;injection h3 with h3;injection h3 with h3;subst h3
   refine .inr ⟨x,arr,T,fz,hnew,by rw[hx];exact h4,(fun h=>by cases h),fun r row hr=>?_⟩;rw[List.getElem?_drop]at hr;obtain⟨h7,h8⟩:=h6 _ _ hr;refine⟨h7,?_⟩;have hxb:x.base=e.base+o*es:=by rw[hx]
   rw[hxb];rw[Nat.add_mul,<-Nat.add_assoc]at h8;exact h8
 have H1:HeapOK ⟨M.P,{M.C with S:=(.loc nx, .rows es (rs.drop o))::M.C.S},M.w0,M.F,η++ [some x],none⟩ (η++ [some x]) w O (nx+1):=by
  refine⟨List.prefix_rfl,by simp[H.len],⟨fun i h hi=>⟨(H.own.1 i h hi).1.mono hpre,fun k f=>(H.own.1 i h hi).2 k (H.stands hpre hi (fun _ _=>rfl) f)⟩,
   fun i j h h' k hi hj hne f f'=>H.own.2 i j h h' k hi hj hne (H.stands hpre hi (fun _ _=>rfl) f) (H.stands hpre hj (fun _ _=>rfl) f')⟩,H.fr,fun b h hb=>?_⟩
  have old:lkS M.C b=some h->HpSat (η++ [some x]) M.w0 false b h/\∀k,feet (η++ [some x]) M.w0 b h k->k<M.w0.heap.size/\¬M.F k:=fun hb=>
   ⟨(H.sok b h hb).1.mono (H.pre.trans hpre),fun k f=>(H.sok b h hb).2 k (hold hb k f)⟩
  cases b with
  |glob g=>exact old hb
  |loc j=>
   simp only[lkS,lkpB,WU]at hb;cases hi:Nat.beq j nx with
   |false=>rw[hi]at hb;exact old hb
   |true=>
    rw[hi]at hb;injection hb with hb;subst hb;have hi:=Zn hi;subst hi;refine⟨h2,fun k f=>?_⟩;obtain⟨y,hy,f⟩:=f;rw[show(η++ [some x]).get (.loc j)=some (some x)from hnew]at hy;injection hy with hy;injection hy with hy;subst hy;rcases f with rfl|f
    ·rw[hx];exact hlt
    ·exact f.elim
 have hd1:DenL (η++ [some x]) [.sl (.loc nx) 0 es n none] [v]:=by
  simp only[DenL,Den];refine⟨v,[],rfl, .inr ⟨x,o',hnew,?_,?_,Nat.le_refl _,fun _=>?_⟩,rfl⟩
  ·rw[hv,hx];simp
  ·rw[hx];simp;omega
  ·rw[hx];simp;exact hof (.inl (by omega))
 refine((hc (η++ [some x])).out (η++ [some x]) w [v] H1 hd1).mono fun v' w' ⟨r,O',nx',η',h3,h4,h5,h6⟩=>?_;exact⟨r,O',nx',η',hpre.trans h3,⟨(H.pre.trans hpre).trans h3,h4.len,h4.own,h4.fr,H.sok⟩,h5,h6⟩
end
section
variable {M:Mx}{η:Env}{w:World}{O:Hps}{nx:Nat}
theorem HeapOK.relaid(H:HeapOK M η w O nx){i es:Nat}{D D':List (List DC)}{R':List (List SV)}{w':World}{x:Ent}{sel:Nat->Nat}
 (hi:lkp i O=some (.deep false es D)) (hf:FrW w w' fun _=>False) (hx:w.heap.size<=x.g) (hN:HpSat (η++ [some x]) w' true (.loc nx) (.rows es R')) (hl:D'.length=R'.length)
 (hrow:∀(r:Nat) (row:List DC),D'[r]?=some row->D[sel r]?=some row) (hinj:∀r r',r<D'.length->r'<D'.length->sel r=sel r'->r=r')
 (hv:∀(r c:Nat) (row:List DC) (sv:SV),D'[r]?=some row->row[c]?=some (.v sv)->∃rw:List SV,R'[r]?=some rw/\rw[c]?=some sv)
 (hk:∀(r c:Nat) (row:List DC) (es':Nat) (rows:List (List SV)),D'[r]?=some row->row[c]?=some (.kid es' rows)->∃(rw:List SV) (v:Value) (e:Ent) (o:Obj),R'[r]?=some rw/\rw[c]?=some (.val v)/\η.get (.loc i)=some (some e)/\w.heap[e.g]?=some o/\ZF o es (sel r) c=some v)
 (hlen:∀(r:Nat) (row:List DC) (rw:List SV),D'[r]?=some row->R'[r]?=some rw->rw.length=row.length):
 HeapOK M (η++ [some x]) w' ((nx, .deep false es D')::delK i O) (nx+1):=by
 have H2:HeapOK M η w' O nx:=H.grewQ hf;have hpre:η<+:η++ [some x]:=List.prefix_append _ _
 have hnew:(η++ [some x]).get (.loc nx)=some (some x):=by
  show(η++ [some x])[nx]?=_
  rw[List.getElem?_append_right (by rw[H.len];omega),H.len];simp
 obtain⟨hsat,hF⟩:=H.own.1 i _ hi;obtain⟨_,hD,_⟩:=hsat.deep_ent;have hsat2:=(H2.own.1 i _ hi).1;have hsize:M.w0.heap.size<=w.heap.size:=H.fr.size
 have hkid:∀(r c:Nat) (es':Nat) (rows:List (List SV)),Yd D' r c=some (es',rows)->∃(rw:List SV) (v:Value) (e:Ent) (o:Obj),R'[r]?=some rw/\rw[c]?=some (.val v)/\η.get (.loc i)=some (some e)/\w.heap[e.g]?=some o/\ZF o es (sel r) c=some v/\Yd D (sel r) c=some (es',rows)/\KidSat η w v es' rows:=fun r c es' rows h=>by
  obtain⟨row,h1,h2⟩:=kidAt_some.1 h;obtain⟨rw1,v,e,o,k1,k2,k3,k4,k5⟩:=hk r c row es' rows h1 h2;have h3:Yd D (sel r) c=some (es',rows):=kidAt_some.2 ⟨row,hrow r row h1,h2⟩;obtain⟨v',k6,k7,_⟩:=((hD e k3).2 o k4).sat (sel r) c es' rows h3;rw[k5]at k6;injection k6 with k6;subst k6
  exact⟨rw1,v,e,o,k1,k2,k3,k4,k5,h3,k7⟩
 have hfoot:∀{r c es' rows v k} {e:Ent} {o:Obj},η.get (.loc i)=some (some e)->w.heap[e.g]?=some o->ZF o es (sel r) c=some v->Yd D (sel r) c=some (es',rows)->v.ownBlock=some k->feet η w (.loc i) (.deep false es D) k:=fun{r c es' rows v k e o} h1 h2 h3 h4 h5=>⟨e,h1, .inr (by simp only[kid];exact⟨o,sel r,c,_,v,h2,h4,h3,h5⟩)⟩;simp only[HpSat]at hN;rcases hN with⟨h1,_⟩|⟨x',arr,T,fz,h1,h2,h3,h4⟩
 ·rw[hnew]at h1;cases h1
 rw[hnew]at h1;injection h1 with h1;injection h1 with h1;subst h1
 obtain⟨h5,h6,h7,h8⟩:=h3 trivial
 have hcell:∀{r c:Nat} {rw1:List SV} {v:Value},R'[r]?=some rw1->rw1[c]?=some (.val v)->ZF (.cells arr T fz) es r c=some v:=fun{r c rw1 v} k1 k2=>by
  obtain⟨_,k3⟩:=h4 r rw1 k1;obtain⟨u,k4,_,k5⟩:=k3 c _ k2;simp only[Den]at k5;rw[h8,Nat.zero_add]at k4;simp only[ZF];rw[k4,k5.1]
 have hdeep:HpSat (η++ [some x]) w' true (.loc nx) (.deep false es D'):=by
  refine HpSat.deep_of (mp:=false) ?_ (fun h=>by cases h) fun e he=>?_
  ·refine .inr ⟨x,arr,T,fz,hnew,h2,fun _=>⟨h5,h6,by rw[show(Zs D').length=R'.length by simp[Zs,hl]];exact h7,h8⟩,fun r row hr=>?_⟩;rw[Y6]at hr;obtain⟨rowD,k1,rfl⟩:=Option.map_eq_some_iff.1 hr;have hrl:r<R'.length:=by rw[<-hl];exact(List.getElem?_eq_some_iff.1 k1).1
   obtain⟨k3,k4⟩:=h4 r _ (List.getElem?_eq_getElem hrl);refine⟨by rw[List.length_map,<-k3];exact(hlen r rowD _ k1 (List.getElem?_eq_getElem hrl)).symm,fun c sv hc=>?_⟩;rw[List.getElem?_map]at hc;obtain⟨d,k5,rfl⟩:=Option.map_eq_some_iff.1 hc;cases d with
   |v s=>
    obtain⟨rw1,k6,k7⟩:=hv r c rowD s k1 k5;rw[List.getElem?_eq_getElem hrl]at k6;injection k6 with k6;subst k6
    exact k4 c s k7
   |kid es' rows=>
    obtain⟨rw1,v,_,_,k6,k7,_⟩:=hk r c rowD es' rows k1 k5;rw[List.getElem?_eq_getElem hrl]at k6;injection k6 with k6;subst k6
    obtain⟨u,q1,q2,_⟩:=k4 c _ k7;exact⟨u,q1,q2,by simp only[ZN,Den]⟩
  ·rw[hnew]at he;injection he with he;injection he with he;subst he
   refine⟨h8,fun o ho=>?_⟩;rw[h2]at ho;injection ho with ho;subst ho
   refine⟨fun r c es' rows hkd=>?_,fun r c r' c' y y' v v' k q1 q2 q3 q4 q5 q6=>?_⟩
   ·obtain⟨rw1,v,e,o,k1,k2,k3,k4,k5,k6,k7⟩:=hkid r c es' rows hkd;have hlt:∀k,v.ownBlock=some k->k<w.heap.size:=fun k hkk=>hsat.feet_lt (hfoot k3 k4 k5 k6 hkk);refine⟨v,hcell k1 k2,(k7.keep fun k hkk=>hf.block k (hlt k hkk) (fun h=>h)).mono hpre,fun hkk=>?_⟩;have:=hlt _ hkk;omega
   ·obtain⟨ya,yb⟩:=y;obtain⟨za,zb⟩:=y';obtain⟨rw1,v1,e,o,k1,k2,k3,k4,k5,k6,k7⟩:=hkid r c ya yb q1;obtain⟨rw2,v2,e2,o2,j1,j2,j3,j4,j5,j6,j7⟩:=hkid r' c' za zb q2;rw[hcell k1 k2]at q3;injection q3 with q3;subst q3
    rw[hcell j1 j2]at q4;injection q4 with q4;subst q4
    rw[k3]at j3;injection j3 with j3;injection j3 with j3;subst j3
    rw[k4]at j4;injection j4 with j4;subst j4
    obtain⟨s1,s2⟩:=((hD e k3).2 o k4).ne (sel r) c (sel r') c' _ _ _ _ k k6 j6 k5 j5 q5 q6;obtain⟨ra,t1,_⟩:=kidAt_some.1 q1;obtain⟨rb,t2,_⟩:=kidAt_some.1 q2;exact⟨hinj r r' (List.getElem?_eq_some_iff.1 t1).1 (List.getElem?_eq_some_iff.1 t2).1 s1,s2⟩
 have hfn:∀k,feet (η++ [some x]) w' (.loc nx) (.deep false es D') k->k=x.g\/feet η w (.loc i) (.deep false es D) k:=fun k f=>by
  rcases f.of hnew with rfl|f
  ·exact .inl rfl
  ·simp only[kid]at f;obtain⟨o,r,c,y,v,f1,f2,f3,f4⟩:=f;rw[h2]at f1;injection f1 with f1;subst f1
   obtain⟨ya,yb⟩:=y;obtain⟨rw1,v1,e,o,k1,k2,k3,k4,k5,k6,k7⟩:=hkid r c ya yb f2;rw[hcell k1 k2]at f3;injection f3 with f3;subst f3
   exact .inr (hfoot k3 k4 k5 k6 f4)
 have hold:∀{j h k},lkp j O=some h->feet (η++ [some x]) w' (.loc j) h k->feet η w (.loc j) h k:=fun{j h k} hj f=>H.stands hpre hj (fun k f=>hf.block k ((H.own.1 j h hj).1.feet_lt f) (fun h=>h)) f
 have hlk:∀{j h},lkp j ((nx,Hp.deep false es D')::delK i O)=some h->(j=nx/\h= .deep false es D')\/(j≠nx/\j≠i/\lkp j O=some h):=fun{j h} hj=>by
  rw[Z6]at hj;split at hj
  ·rename_i e;injection hj with hj;exact .inl ⟨e,hj.symm⟩
  ·rename_i e;by_cases e2:j=i
   ·subst e2;rw[Yw]at hj;cases hj
   ·rw[Vn _ _ _ e2]at hj;exact .inr ⟨e,e2,hj⟩
 refine⟨H.pre.trans hpre,by simp[H.len],⟨fun j h hj=>?_,fun j j' h h' k hj hj' hne f f'=>?_⟩,H2.fr,H.sok⟩
 ·rcases hlk hj with⟨rfl,rfl⟩|⟨_,_,hj⟩
  ·refine⟨hdeep,fun k f=>?_⟩;rcases hfn k f with rfl|f
   ·exact .inr (by omega)
   ·exact hF k f
  ·exact⟨(H2.own.1 j h hj).1.mono hpre,fun k f=>(H.own.1 j h hj).2 k (hold hj f)⟩
 ·rcases hlk hj with⟨e1,e2⟩|⟨n1,n2,g1⟩<;>rcases hlk hj' with⟨e3,e4⟩|⟨n3,n4,g2⟩
  ·exact hne (e1.trans e3.symm)
  ·subst e1 e2;have f':=hold g2 f';rcases hfn k f with rfl|f
   ·have:=(H.own.1 _ _ g2).1.feet_lt f';omega
   ·exact H.own.2 i j' _ _ k hi g2 (Ne.symm n4) f f'
  ·subst e3 e4;have f:=hold g1 f;rcases hfn k f' with rfl|f'
   ·have:=(H.own.1 _ _ g1).1.feet_lt f;omega
   ·exact H.own.2 j i _ _ k g1 hi n2 f f'
  ·exact H.own.2 j j' _ _ k g1 g2 hne (hold g1 f) (hold g2 f')
end
theorem Z84{η:Env}{w:World}{v:Value}{es:Nat}{rows:List (List SV)}(h:KidSat η w v es rows)(hp:Zh rows=true):∃en,LentIn w v es rows en/\∀y,en=some y->v.ownBlock=some y.g:=by
 rcases h with⟨rfl,rfl⟩|⟨g,cap,arr,T,fz,rfl,k2,k3,k4,k5,k6⟩
 ·refine⟨none,⟨(fun x h=>by cases h),fun η' i hi=>⟨?_,?_⟩⟩,fun y h=>by cases h⟩
  ·simp only[Den];exact .inl ⟨hi,trivial,rfl⟩
  ·simp only[HpSat];exact .inl ⟨hi,trivial⟩
 ·refine⟨some ⟨g,0,cap⟩,⟨fun x h=>?_,fun η' i hi=>⟨?_,?_⟩⟩,fun y h=>by injection h with h;subst h;rfl⟩
  ·injection h with h;subst h;exact(Array.getElem?_eq_some_iff.1 k2).1
  ·simp only[Den];exact .inr ⟨⟨g,0,cap⟩,0,hi,by simp,by simpa using k5,Nat.le_refl _,fun _=>by simp⟩
  ·simp only[HpSat];refine .inr ⟨⟨g,0,cap⟩,arr,T,fz,hi,k2,(fun h=>by cases h),fun r row hr=>?_⟩;obtain⟨h1,h2⟩:=k6 r row hr;exact⟨h1,h2.plain (Jd hp hr)⟩
def JK(n x:Nat)(sv:SV):List (List SV):=(List.range n).map fun y=>[if y=x then sv else .any]
section
variable {M:Mx}{O:Hps}{nx:Nat}
theorem CALL.kidLent{f:FuncId}{args:List SV}{K:SV->Hps->Nat->Prop}{es' i x:Nat}{D:List (List DC)}{rows:List (List SV)}(hb:lkS M.C (.loc i)=some (.deep false 1 D))(hxD:D[x]?=some [.kid es' rows])(hp:Zh rows=true)
 (hc:∀η1,CALL ⟨M.P,{M.C with S:=(.loc nx, .rows es' rows)::(.loc i, .rows 1 (JK D.length x (.sl (.loc nx) 0 es' rows.length none)))::M.C.S},M.w0,M.F,η1,none⟩ f args O (nx+1) K):CALL M f args O nx K:=by
 refine⟨fun η w vs H hd=>?_⟩;obtain⟨hsat,hft⟩:=H.sok _ _ hb;have hsat1:=hsat;simp only[HpSat]at hsat;obtain⟨hR,hD⟩:=hsat;rcases hR with⟨_,h0⟩|⟨e,arr,T,fz,he,hheap,_,hcells⟩
 ·have:D=[]:=by simpa[Zs]using h0
  rw[this]at hxD;simp at hxD
 obtain⟨hbase,hK⟩:=hD e he;have hkid:Yd D x 0=some (es',rows):=kidAt_some.2 ⟨_,hxD,rfl⟩;obtain⟨v,hv,hks,_⟩:=(hK _ hheap).sat x 0 es' rows hkid;obtain⟨en,hL,hen⟩:=Z84 hks hp;have hpre:η<+:η++ [en]:=List.prefix_append _ _;have hnew:(η++ [en])[nx]?=some en:=by rw[List.getElem?_append_right (by rw[H.len];omega),H.len,Nat.sub_self];rfl
 obtain⟨hden,h2⟩:=hL.2 _ _ hnew
 have hold:∀{b h},lkS M.C b=some h->∀k,feet (η++ [en]) M.w0 b h k->feet M.η0 M.w0 b h k:=fun{b h} hb k f=>by
  obtain⟨y,hy,_⟩:=(H.sok b h hb).1.lt;exact f.less (H.pre.trans hpre) hy
 have he2:(η++ [en]).get (.loc i)=some (some e):=Env.get_mono (H.pre.trans hpre) he
 have h3:HpSat (η++ [en]) M.w0 false (.loc i) (.rows 1 (JK D.length x (.sl (.loc nx) 0 es' rows.length none))):=by
  simp only[HpSat];refine .inr ⟨e,arr,T,fz,he2,hheap,(fun h=>by cases h),fun r row hr=>?_⟩;unfold JK at hr;rw[List.getElem?_map]at hr;obtain⟨y,h4,rfl⟩:=Option.map_eq_some_iff.1 hr;obtain⟨h5,h6⟩:=List.getElem?_eq_some_iff.1 h4;rw[List.getElem_range]at h6;subst h6;rw[List.length_range]at h5;refine⟨rfl,fun j sv hj=>?_⟩;obtain⟨k1,k2⟩:=hcells r (D[r].map ZN) (by rw[Y6,List.getElem?_eq_getElem h5];rfl)
  match j,hj with
  |0,hj=>
   simp only[List.getElem?_cons_zero,Option.some.injEq]at hj;subst hj
   match hq:D[r].map ZN,k1,k2 with
   | [s],_,k2=>
     obtain⟨u,k3,k4,_⟩:=k2 0 s rfl;refine⟨u,k3,k4,?_⟩;by_cases hrx:r=x
     ·subst hrx;rw[if_pos rfl];simp only[ZF]at hv;rw[hbase,Nat.zero_add]at k3;rw[k3]at hv;injection hv with hv;subst hv;exact hden
     ·rw[if_neg hrx];simp only[Den]
  |j+1,hj=>simp at hj
 have H1:HeapOK ⟨M.P,{M.C with S:=(.loc nx, .rows es' rows)::(.loc i, .rows 1 (JK D.length x (.sl (.loc nx) 0 es' rows.length none)))::M.C.S},M.w0,M.F,η++ [en],none⟩ (η++ [en]) w O (nx+1):=by
  refine⟨List.prefix_rfl,by simp[H.len],⟨fun i h hi=>⟨(H.own.1 i h hi).1.mono hpre,fun k f=>(H.own.1 i h hi).2 k (H.stands hpre hi (fun _ _=>rfl) f)⟩,
   fun i j h h' k hi hj hne f f'=>H.own.2 i j h h' k hi hj hne (H.stands hpre hi (fun _ _=>rfl) f) (H.stands hpre hj (fun _ _=>rfl) f')⟩,H.fr,fun b h hb=>?_⟩
  have old:lkS M.C b=some h->HpSat (η++ [en]) M.w0 false b h/\∀k,feet (η++ [en]) M.w0 b h k->k<M.w0.heap.size/\¬M.F k:=fun hb=>
   ⟨(H.sok b h hb).1.mono (H.pre.trans hpre),fun k f=>(H.sok b h hb).2 k (hold hb k f)⟩
  cases b with
  |glob g=>exact old hb
  |loc j=>
   simp only[lkS,lkpB,WU]at hb;cases hi:Nat.beq j nx with
   |true=>
    rw[hi]at hb;injection hb with hb;subst hb;have hi:=Zn hi;subst hi;refine⟨h2,fun k f=>?_⟩;obtain⟨y,hy,f⟩:=f;rw[show(η++ [en]).get (.loc j)=some en from hnew]at hy;injection hy with hy;have ho:=hen y hy;rcases f with rfl|f
    ·exact hft _ ⟨e,he, .inr (by simp only[kid];exact⟨_,x,0,_,v,hheap,hkid,hv,ho⟩)⟩
    ·exact f.elim
   |false=>
    rw[hi]at hb;cases hi2:Nat.beq j i with
    |false=>rw[hi2]at hb;exact old hb
    |true=>
     rw[hi2]at hb;injection hb with hb;subst hb;have hi2:=Zn hi2;subst hi2;refine⟨h3,fun k f=>?_⟩;rcases f.of he2 with rfl|f
     ·exact hft _ (feet.own he)
     ·exact f.elim
 refine((hc (η++ [en])).out (η++ [en]) w vs H1 (hd.mono hpre)).mono fun v' w' ⟨r,O',nx',η',h3,h4,h5,h6⟩=>?_;exact⟨r,O',nx',η',hpre.trans h3,⟨(H.pre.trans hpre).trans h3,h4.len,h4.own,h4.fr,H.sok⟩,h5,h6⟩
end
theorem LentIn.nowE{w w':World}{F:Nat->Prop}{v:Value}{es:Nat}{rs:List (List SV)}{en:Option Ent}(h:LentIn w v es rs en)(hf:FrW w w' F)(hF:∀y,en=some y->¬F y.g):LentIn w' v es rs en:=
 ⟨fun x hx=>Nat.lt_of_lt_of_le (h.1 x hx) hf.size,fun η i hi=>⟨(h.2 η i hi).1,(h.2 η i hi).2.keep fun k f=>by
  obtain⟨e,he,f⟩:=f;rw[show η.get (.loc i)=some en from hi]at he;injection he with he;rcases f with rfl|f
  ·exact hf.block _ (h.1 e he) (hF _ he)
  ·exact f.elim⟩⟩
def Z1t(η:Env)(w:World)(O:Hps)(i:Nat)(k:Nat):Prop:=∃(j:Nat) (h:Hp),j≠i/\lkp j O=some h/\feet η w (.loc j) h k
section
variable {M:Mx}{η:Env}{w:World}{O:Hps}{nx:Nat}
def Z8a(M:Mx)(O:Hps)(η:Env)(w:World)(i es:Nat)(R:List (List SV)):Mx:=⟨M.P,{M.C with S:=(.loc i, .rows es R)::M.C.S},w,Z1t η w O i,η,M.px⟩
theorem HeapOK.toRest(H:HeapOK M η w O nx){i es:Nat}{rs:List (List DC)}{R:List (List SV)}(hi:lkp i O=some (.deep false es rs))(hR:RawIs η w i es rs R):HeapOK (Z8a M O η w i es R) η w (delK i O) nx:=by
 have hd:∀j h,lkp j (delK i O)=some h->j≠i/\lkp j O=some h:=fun j h hj=>by
  by_cases e:j=i
  ·subst e;rw[Yw]at hj;cases hj
  ·exact⟨e,by rwa [Vn i O j e]at hj⟩
 refine⟨List.prefix_rfl,H.len,⟨fun j h hj=>?_,fun j j' h h' k hj hj' hne f=>?_⟩,FrW.refl _ _,fun b h hb=>?_⟩
 ·obtain⟨h1,h2⟩:=hd j h hj;exact⟨(H.own.1 j h h2).1,fun k f=> .inl ⟨j,h,h1,h2,f⟩⟩
 ·exact H.own.2 j j' h h' k (hd j h hj).2 (hd j' h' hj').2 hne f
 have old:lkS M.C b=some h->HpSat η w false b h/\∀k,feet η w b h k->k<w.heap.size/\¬Z1t η w O i k:=fun hb=>by
  refine⟨H.shared hb,fun k f=>?_⟩;obtain⟨h1,h2⟩:=H.sok b h hb;obtain⟨x,hx,_⟩:=h1.lt
  have f2:feet M.η0 M.w0 b h k:=(f.less H.pre hx).keep fun e he=>by
   obtain⟨h3,h4⟩:=h2 e.g (feet.own he);exact H.fr.block _ h3 h4
  obtain⟨h3,h4⟩:=h2 k f2;refine⟨Nat.lt_of_lt_of_le h3 H.fr.size,?_⟩;rintro⟨j,h',_,hj,f3⟩;rcases(H.own.1 j h' hj).2 k f3 with h5|h5
  ·exact h4 h5
  ·omega
 cases b with
 |glob g=>exact old hb
 |loc j=>
  simp only[Z8a,lkS,lkpB,WU]at hb;cases e:Nat.beq j i with
  |false=>rw[e]at hb;exact old hb
  |true=>
   rw[e]at hb;injection hb with hb;subst hb;have:=Zn e;subst this;refine⟨hR.sat,fun k f=>⟨hR.sat.feet_lt f,?_⟩⟩;rintro⟨j',h',hne,hj',f'⟩;obtain⟨en,he,f⟩:=f;rcases f with rfl|f
   ·exact H.own.2 j' j h' _ _ hj' hi hne f' ⟨en,he, .inl rfl⟩
   ·exact f.elim
theorem HeapOK.ofRest(H:HeapOK M η w O nx){i es:Nat}{R:List (List SV)}{η':Env}{w':World}{O':Hps}{n':Nat}(H':HeapOK (Z8a M O η w i es R) η' w' O' n'):HeapOK M η' w' O' n':=by
 have go:∀k,Z1t η w O i k->M.F k\/M.w0.heap.size<=k:=fun k ⟨j,h,_,hj,f⟩=>(H.own.1 j h hj).2 k f;refine⟨H.pre.trans H'.pre,H'.len,⟨fun j h hj=>⟨(H'.own.1 j h hj).1,fun k f=>?_⟩,H'.own.2⟩,H.fr.trans H'.fr go,H.sok⟩;rcases(H'.own.1 j h hj).2 k f with h1|h1
 ·exact go k h1
 ·exact .inr (Nat.le_trans H.fr.size h1)
theorem HeapOK.kidsRest(H:HeapOK M η w O nx){i es:Nat}{rs:List (List DC)}{R:List (List SV)}(hi:lkp i O=some (.deep false es rs))(hR:RawIs η w i es rs R){r c es':Nat}{rows:List (List SV)}{row:List DC}(h1:rs[r]?=some row)(h2:row[c]?=some (.kid es' rows))(hp:Zh rows=true):
 ∃rw1 v,R[r]?=some rw1/\rw1[c]?=some (.val v)/\∀w',FrW w w' (Z1t η w O i)->∃en,LentIn w' v es' rows en:=by
 obtain⟨rw1,v,h3,h4,h5⟩:=hR.ck r c row es' rows h1 h2;refine⟨rw1,v,h3,h4,fun w' hf=>?_⟩;obtain⟨en,h6,h7⟩:=Z84 h5 hp;refine⟨en,h6.nowE hf fun y hy=>?_⟩;rintro⟨j,h',hne,hj,f⟩;have hs:=hR.sat;simp only[HpSat]at hs;rcases hs with⟨_,hs⟩|⟨e,arr,T,fz,g2,g3,_,g5⟩
 ·rw[hs]at h3;simp at h3
 obtain⟨_,g6⟩:=g5 r rw1 h3;obtain⟨u,g7,_,g8⟩:=g6 c (.val v) h4;simp only[Den]at g8;have hb:=(((H.own.1 i _ hi).1.deep_ent).2.1 e g2).1;refine H.own.2 j i h' _ y.g hj hi hne f ⟨e,g2, .inr ⟨_,r,c,(es',rows),v,g3,kidAt_some.2 ⟨row,h1,h2⟩,?_,h7 y hy⟩⟩;simp only[ZF];rw[hb,Nat.zero_add]at g7;rw[g7,g8.1]
theorem Models.ofRest{fr fr':Fr}{a a':Act}(H:HeapOK M η w O nx){i es:Nat}{R:List (List SV)}{η':Env}{w':World}{O':Hps}{n':Nat}(h:Models (Z8a M O η w i es R) η' fr' O' n' a' w'):Models M η' fr' O' n' a' w':=
 ⟨H.ofRest h.heap,h.size,h.nds,h.defers,h.ro,h.frame⟩
theorem LOOP.rest{body:Code}{fr:Fr}{Q:Post}{i es:Nat}{rs:List (List DC)}{O1:Hps}(hi:lkp i O=some (.deep false es rs))(hO:delK i O=O1)
 (h:∀(η:Env) w,η.length=nx->∀R,RawIs η w i es rs R->(∀(r c es':Nat) (rows:List (List SV)) (row:List DC),rs[r]?=some row->row[c]?=some (.kid es' rows)->Zh rows=true->∃rw1 v,R[r]?=some rw1/\rw1[c]?=some (.val v)/\∀w',FrW w w' (Z1t η w O i)->∃en,LentIn w' v es' rows en)->
   LOOP ⟨M.P,{M.C with S:=(.loc i, .rows es R)::M.C.S},w,Z1t η w O i,η,M.px⟩ body fr O1 nx Q):LOOP M body fr O nx Q:=by
 subst hO;refine⟨fun η a w hm b k cs hro=>?_⟩;have H:=hm.heap;obtain⟨R,hR⟩:=Zdy (H.own.1 i _ hi).1;have hl:=h η w H.len R hR fun r c es' rows row h1 h2 h3=>H.kidsRest hi hR h1 h2 h3;have hm2:Models (Z8a M O η w i es R) η fr (delK i O) nx a w:=⟨H.toRest hi hR,hm.size,hm.nds,hm.defers,hm.ro,hm.frame⟩;obtain⟨e,a',w',hq,ha⟩:=hl.out η a w hm2 b k cs hro;refine⟨e,a',w',?_,ha⟩;cases e with
 |normal=>obtain⟨η',fr',O',n',h1,h2⟩:=hq;exact⟨η',fr',O',n',Models.ofRest (a:=a) (fr:=fr) H h1,h2⟩
 |exit id=>obtain⟨η',fr',O',n',h1,h2⟩:=hq;exact⟨η',fr',O',n',Models.ofRest (a:=a) (fr:=fr) H h1,h2⟩
 |ret=>obtain⟨η',fr',O',n',h1,h2⟩:=hq;exact⟨η',fr',O',n',Models.ofRest (a:=a) (fr:=fr) H h1,h2⟩
 |panic ch=>
  obtain⟨kp,X,h1,η',O',n',v,sv,h2,h3,h4⟩:=hq;exact⟨kp,X,h1,η',O',n',v,sv,h2,Models.ofRest (a:=a) (fr:=fr) H h3,h4⟩
 |_=>exact hq.elim
end
end Go.Sx
namespace Go.Sx
open Go Go.Our
inductive DullL:List DC->List DC->Prop
 |nil:DullL [] []
 |keep {d:DC} {r r':List DC} (h:DullL r r'):DullL (d::r) (d::r')
 |dull {d:DC} {r r':List DC} (h:DullL r r'):DullL (d::r) (.v .any::r')
structure DullLL(rs rs':List (List DC)):Prop where
 len:rs'.length=rs.length
 row:∀(r:Nat) (row':List DC),rs'[r]?=some row'->∃row:List DC,rs[r]?=some row/\DullL row row'
theorem DullL.len{r r':List DC}(h:DullL r r'):r'.length=r.length:=by
 induction h with
 |nil=>rfl
 |keep _ ih=>simp[ih]
 |dull _ ih=>simp[ih]
theorem DullL.refl:∀r:List DC,DullL r r
 | []=> .nil
 |d::r=> .keep (DullL.refl r)
theorem DullL.get{r r':List DC}(h:DullL r r'):∀{c:Nat} {d':DC},r'[c]?=some d'->∃d,r[c]?=some d/\(d'=d\/d'= .v .any):=by
 induction h with
 |nil=>intro c d' h;simp at h
 | @keep d r r' h ih=>
   intro c d' hc;cases c with
   |zero=>simp only[List.getElem?_cons_zero,Option.some.injEq]at hc;exact⟨d,rfl, .inl hc.symm⟩
   |succ c=>exact ih (by simpa using hc)
 | @dull d r r' h ih=>
   intro c d' hc;cases c with
   |zero=>simp only[List.getElem?_cons_zero,Option.some.injEq]at hc;exact⟨d,rfl, .inr hc.symm⟩
   |succ c=>exact ih (by simpa using hc)
theorem DullL.den{r r':List DC}(h:DullL r r'){η:Env}:∀{vs:List Value},DenL η (r.map ZN) vs->DenL η (r'.map ZN) vs:=by
 induction h with
 |nil=>exact fun h=>h
 | @keep d r r' h ih=>
   intro vs hd;simp only[List.map_cons,DenL]at hd⊢;obtain⟨u,us,h1,h2,h3⟩:=hd;exact⟨u,us,h1,h2,ih h3⟩
 | @dull d r r' h ih=>
   intro vs hd;simp only[List.map_cons,DenL]at hd⊢;obtain⟨u,us,h1,h2,h3⟩:=hd;exact⟨u,us,h1,by simp only[ZN,Den],ih h3⟩
theorem DullLL.kid{rs rs':List (List DC)}(h:DullLL rs rs'){i j:Nat}{x:Nat×List (List SV)}(hk:Yd rs' i j=some x):Yd rs i j=some x:=by
 obtain⟨es,rows⟩:=x;obtain⟨row',h1,h2⟩:=kidAt_some.1 hk;obtain⟨row,h3,h4⟩:=h.row i row' h1;obtain⟨d,h5,h6|h6⟩:=h4.get h2
 ·subst h6;exact kidAt_some.2 ⟨row,h3,h5⟩
 ·cases h6
theorem DullLL.flat{rs rs':List (List DC)}(h:DullLL rs rs'){r:Nat}{row:List SV}(hr:(Zs rs')[r]?=some row):∃r1 r2,rs[r]?=some r1/\DullL r1 r2/\row=r2.map ZN/\(Zs rs)[r]?=some (r1.map ZN):=by
 unfold Zs at hr⊢;rw[List.getElem?_map]at hr;obtain⟨r2,h1,rfl⟩:=Option.map_eq_some_iff.1 hr;obtain⟨r1,h2,h3⟩:=h.row r r2 h1;exact⟨r1,r2,h2,h3,rfl,by rw[List.getElem?_map,h2];rfl⟩
theorem DullLL.refl(rs:List (List DC)):DullLL rs rs:=⟨rfl,fun r row h=>⟨row,h,DullL.refl row⟩⟩
theorem HpSat.dull{η:Env}{w:World}{own:Bool}{b:Blk}{mp:Bool}{es:Nat}{rs rs':List (List DC)}(d:HpSat η w own b (.deep mp es rs))(h:DullLL rs rs'):HpSat η w own b (.deep mp es rs'):=by
 have hK:DeepSat η w b es rs->DeepSat η w b es rs':=fun hD e he=>by
  obtain⟨h1,h2⟩:=hD e he;exact⟨h1,fun o ho=>⟨fun i j es' rows hk=>(h2 o ho).sat i j es' rows (h.kid hk),fun i j i' j' x x' v v' k k1 k2=>(h2 o ho).ne i j i' j' x x' v v' k (h.kid k1) (h.kid k2)⟩⟩
 have hl:(Zs rs').length=(Zs rs).length:=by simp[Zs,h.len]
 cases mp
 ·simp only[HpSat,RowsSat]at d⊢;refine⟨?_,hK d.2⟩;rcases d.1 with⟨h1,h2⟩|⟨e,arr,T,fz,h1,h2,h3,h4⟩
  ·refine .inl ⟨h1,List.length_eq_zero_iff.1 (by rw[hl,h2];rfl)⟩
  ·refine .inr ⟨e,arr,T,fz,h1,h2,(by rw[hl];exact h3),fun i row hr=>?_⟩;obtain⟨r1,r2,k1,k2,rfl,k4⟩:=h.flat hr;obtain⟨k5,k6⟩:=h4 i _ k4;refine⟨by rw[List.length_map,k2.len,<-k5,List.length_map],fun j sv hj=>?_⟩;rw[List.getElem?_map]at hj;obtain⟨d',k7,rfl⟩:=Option.map_eq_some_iff.1 hj;obtain⟨d0,k8,k9⟩:=k2.get k7;obtain⟨v,g1,g2,g3⟩:=k6 j (ZN d0) (by rw[List.getElem?_map,k8];rfl);rcases k9 with rfl|rfl
   ·exact⟨v,g1,g2,g3⟩
   ·exact⟨v,g1,g2,by simp only[ZN,Den]⟩
 ·simp only[HpSat,MpSat]at d⊢;obtain⟨⟨⟨e,ens,h1,h2,h3,h4,h5⟩,h6⟩,h7⟩:=d;refine⟨⟨⟨e,ens,h1,h2,h3,by rw[hl];exact h4,fun i row hr=>?_⟩,h6⟩,hK h7⟩;obtain⟨r1,r2,k1,k2,rfl,k4⟩:=h.flat hr;obtain⟨en,g1,g2,g3⟩:=h5 i _ k4;exact⟨en,g1,g2,k2.den g3⟩
theorem FINDD.no{J:Type}{r:Option (Nat×DC)}{A:Nat->DC->J->Prop}{B:J->Prop}{j:J}(h:r=none)(k:B j):FINDD r A B j:=⟨(fun a d e=>by rw[h]at e;cases e),fun _=>k⟩
section
variable {M:Mx}{η:Env}{w:World}{O O1:Hps}{nx n1 n2:Nat}{fr fr1 fr2:Fr}{O2:Hps}
theorem GHO.dull(i:Nat){mp:Bool}{es:Nat}{rs rs':List (List DC)}(hi:lkp i O=some (.deep mp es rs))(hd:DullLL rs rs'):GHO M O nx (setK i (.deep mp es rs') O) nx:=by
 refine⟨fun η w H=>⟨η,List.prefix_rfl,H.anew hi ((H.own.1 i _ hi).1.dull hd) fun n f=>?_⟩⟩;obtain⟨e,he,f⟩:=f;rcases f with rfl|f
 ·exact feet.own he
 ·obtain⟨o,a,b,x,v,h1,h2,h3,h4⟩:=f;exact⟨e,he, .inr ⟨o,a,b,x,v,h1,hd.kid h2,h3,h4⟩⟩
end
end Go.Sx
namespace Go.Our
open Go.Sx
section
variable {α β:Type}[DecidableEq α](K:KeyK α)
def X2(h:α->β->DC)(l:List (α×β)):List (List DC):=l.map fun p=>[.v (K.enc p.1),h p.1 p.2]
theorem Zav(es:Nat)(f:β->List (List SV))(l:List (α×β)):X1 K es f l=X2 K (fun _ v=> .kid es (f v)) l:=rfl
theorem Z6t(h:α->β->DC)(a:α):∀(l:List (α×β)) (i:Nat),findD K.ks (K.enc a) i (X2 K h l)=(ixA a l).map fun p=>(i+p.1,h a p.2)
 | [],i=>rfl
 |(k,v)::r,i=>by
  have ih:=Z6t h a r (i+1);simp only[X2,List.map_cons,findD,ZN,K.is,ixA]at ih⊢;by_cases e:a=k
  ·subst e;simp
  ·simp only[e,decide_false,if_false,ih,Option.map_map];congr 1;funext p;simp only[Function.comp,Prod.mk.injEq,and_true];omega
theorem Z6u(h:α->β->DC)(l:List (α×β)):JN K.ks (Zs (X2 K h l)):=by
 intro r hr;unfold Zs X2 at hr;rw[List.map_map]at hr;obtain⟨p,_,rfl⟩:=List.mem_map.1 hr;exact⟨_,_,rfl,K.ok _⟩
theorem Z1u(h:α->β->DC)(d:DC){a:α}{l:List (α×β)}{i:Nat}{u:β}(hn:(l.map Prod.fst).Nodup)(hi:ixA a l=some (i,u)):(X2 K h l).modify i (putD d)=X2 K (fun k v=>if k=a then d else h k v) l:=by
 unfold X2;have hr:=Z8E hi;apply List.ext_getElem?;intro j;rw[List.getElem?_modify,List.getElem?_map,List.getElem?_map];by_cases e:i=j
 ·subst e;rw[hr];simp[putD]
 ·cases hj:l[j]? with
  |none=>simp
  |some p=>
   have hp:¬p.1=a:=fun e1=>by
    obtain⟨h1,h2⟩:=List.getElem?_eq_some_iff.1 hr;obtain⟨h3,h4⟩:=List.getElem?_eq_some_iff.1 hj;have:=(List.getElem_inj (h₀:=by simpa using h1) (h₁:=by simpa using h3) hn).1 (by rw[List.getElem_map,List.getElem_map,h2,h4,e1]);exact e this
   simp[e,hp]
theorem ZfT{h h':α->β->DC}{l:List (α×β)}(hd:∀k v,h' k v=h k v\/h' k v= .v .any):DullLL (X2 K h l) (X2 K h' l):=by
 refine⟨by simp[X2],fun r row' hr=>?_⟩;unfold X2 at hr⊢;rw[List.getElem?_map]at hr;obtain⟨p,h1,rfl⟩:=Option.map_eq_some_iff.1 hr;refine⟨_,by rw[List.getElem?_map,h1];rfl, .keep ?_⟩;rcases hd p.1 p.2 with e|e
 ·rw[e];exact .keep .nil
 ·rw[e];exact .dull .nil
theorem Z9k{h:α->β->DC}(hp:∀k v,JL (h k v)=true):∀l:List (α×β),Zt (X2 K h l)=true
 | []=>rfl
 |p::l=>by
  have:=Z9k hp l;have h2:=hp p.1 p.2;unfold X2 at this⊢;rw[List.map_cons,Zt,this,Ys,Ys,Ys,h2];simp[JL,K.pl]
end
end Go.Our
