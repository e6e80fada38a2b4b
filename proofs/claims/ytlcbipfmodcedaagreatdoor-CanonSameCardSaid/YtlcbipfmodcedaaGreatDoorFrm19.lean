/- Part 19: SxKids, SxLent, SxRaw, SortC, KidD, Part, Moved, PartK, RawL, Dull, FreshB. Conditions: as each part says. -/
import Derived.Test.YtlcbipfmodcedaaGreatDoorFrm7
set_option linter.unusedVariables false
set_option linter.unusedSimpArgs false
namespace Go.Sx
open Go
structure uT(M:Mx)(O:vX)(nx:Nat)(O1:vX)(n1:Nat):Prop where
 out:∀Y w,vR M Y w O nx->∃η',Y<+:η'/\vR M η' w O1 n1
section
variable {M:Mx}{fr:Fr}{O O1 O2:vX}{nx n1 n2:Nat}
theorem uT.refl:uT M O nx O nx:=⟨fun Y w H=>⟨Y,zu,H⟩⟩
theorem uT.trans(h:uT M O nx O1 n1)(k:uT M O1 n1 O2 n2):uT M O nx O2 n2:=
 ⟨fun Y w H=>let⟨η1,p1,H1⟩:=h.out Y w H;let⟨η2,p2,H2⟩:=k.out η1 w H1;⟨η2,p1.trans p2,H2⟩⟩
theorem uT.goes(h:uT M O nx O1 n1):vU M fr O nx fr O1 n1:=
 ⟨fun Y a w hm=>let⟨η',hp,H⟩:=h.out Y w hm.heap;⟨η',H,hm.size,hm.fK,hm.defers.mono hp,Ub hp hm.ro,fun t v ht=>(hm.frame t v ht).mono hp⟩⟩
theorem uT.loop{body:Code}{Q:Post}(h:uT M O nx O1 n1)(k:vZ M body fr O1 n1 Q):vZ M body fr O nx Q:=vZ.goes h.goes k
theorem uT.call{f:FuncId}{args:List SV}{K:SV->vX->Nat->Prop}(h:uT M O nx O1 n1)(k:CALL M f args O1 n1 K):CALL M f args O nx K:=CALL.weak h.out k
theorem uT.drawn{id:Nat}{ops:Array Oper}{Q:Post}(h:uT M O nx O1 n1)(k:uq M id ops fr O1 n1 Q):uq M id ops fr O nx Q:=
 ⟨fun Y a w hm=>let⟨η1,h1⟩:=(h.goes (fr:=fr)).out Y a w hm;k.out η1 a w h1⟩
theorem uT.fin{r:SV}{Q:SV->vX->Nat->Prop}(h:uT M O nx O1 n1)(k:u0 M O1 n1 r Q):u0 M O nx r Q:=
 ⟨fun Y w v H hd=>let⟨η1,p1,H1⟩:=h.out Y w H;k.out η1 w v H1 (hd.mono p1)⟩
theorem uT.G0(i:Nat)(hi:u5 i O=some (.mp [])):uT M O nx (uI i (.deep true 2 []) O) nx:=by
 refine⟨fun Y w H=>⟨Y,zu,?_⟩⟩;have u9:=(H.own.1 i _ hi).1;simp only[vT]at u9;obtain⟨e,es,h1,h2,h3,h4,h5⟩:=u9;have hk:∀a b x,Ye [] a b=some x->False:=fun a b x h=>by simp[Ye]at h
 refine H.bF hi h1 (fun _ _=>rfl) rfl rfl rfl rfl ?_ (zo _) fun m f=>?_
 .simp only[vT];refine⟨⟨⟨e,es,h1,h2,h3,h4,h5⟩,trivial⟩,fun e' h6=>?_⟩;rw[h1]at h6;injection h6 with h6;injection h6 with h6;subst h6
  exact⟨h2,fun o ho=>⟨fun a b es' rows h=>(hk a b _ h).elim,fun a b a' b' x x' v v' k h=>(hk a b _ h).elim⟩⟩
 .rcases f.of h1 with rfl|f
  exact vY.own h1
  .simp only[uA]at f;obtain⟨o,a,b,x,v,_,h,_⟩:=f;exact(hk a b _ h).elim
theorem uT.w8(i j es:Nat){row row':List SV}(hi:u5 i O=some (.box row))(hr:pY nx es j row=some row'):uT M O nx ((nx, .rows es [])::uI i (.box row') O) (nx+1):=⟨fun Y w H=>H.w8 hi hr⟩
theorem uT.fI(i r c k:Nat){mp:Bool}{es es' n:Nat}{rs:List (List DC)}{row:List DC}{rows:List (List SV)}(hi:u5 i O=some (.deep mp es rs))(hr:rs[r]?=some row)(hc:row[c]?=some (.v (.sl (.loc k) 0 es' n none)))
 (hk:u5 k O=some (.rows es' rows)) (hn:n<=rows.length) (hki:k≠i):uT M O nx (uU k (uI i (.deep mp es (uB rs r c (.uA es' (rows.take n)))) O)) nx:=⟨fun Y w H=>⟨Y,zu,H.fI hi hr hc hk hn hki⟩⟩
theorem wV.at{J:Type}{r:Option (Nat×DC)}{A:Nat->DC->J->Prop}{B:J->Prop}{j:J}{i:Nat}{d:DC}(h:r=some (i,d))(k:A i d j):wV r A B j:=
 ⟨fun i' d' h'=>by rw[h]at h';simp only[zi,yF]at h';obtain⟨rfl,rfl⟩:=h';exact k,fun h'=>by rw[h]at h';cases h'⟩
theorem vR.mY{Y:Env}{w:World}(H:vR M Y w O nx){i:Nat}{h h':Hp}(hi:u5 i O=some h)(hs:vT Y w true (.loc i) h')(hk:∀n,vY Y w (.loc i) h' n->vY Y w (.loc i) h n):vR M Y w (uI i h' O) nx:=by
 have hin:∀{a g},u5 a (uI i h' O)=some g->∃g0,u5 a O=some g0/\vT Y w true (.loc a) g/\∀n,vY Y w (.loc a) g n->vY Y w (.loc a) g0 n:=by
  intro a g ha;rw[Y1 _ _ _ _ (by rw[hi];rfl)]at ha;split at ha
  .rename_i e;subst e;injection ha with ha;subst ha;exact⟨_,hi,hs,hk⟩
  exact⟨g,ha,(H.own.1 _ _ ha).1,fun n f=>f⟩
 refine⟨H.pre,H.len,⟨fun a g ha=>?_,fun a b g g' n ha hb hab f f'=>?_⟩,H.fr,H.wm⟩
 .obtain⟨g0,h1,h2,h3⟩:=hin ha;exact⟨h2,fun n f=>(H.own.1 a g0 h1).2 n (h3 n f)⟩
 .obtain⟨g0,h1,_,h3⟩:=hin ha;obtain⟨g0',kS,_,Ff⟩:=hin hb;exact H.own.2 a b g0 g0' n h1 kS hab (h3 n f) (Ff n f')
def qO:List SV->List DC->Prop
 | [],[]=>True
 |s::r,d::ds=>(d= .v s\/(s= .val (.slice none 0 0)/\∃e,d= .uA e []))/\qO r ds
 |_,_=>False
theorem qO.len:∀{r:List SV} {ds:List DC},qO r ds->ds.length=r.length
 | [],[],_=>rfl
 |s::r,d::ds,h=>by simp[qO.len h.2]
 | [],_::_,h=>h.elim
 |_::_,[],h=>h.elim
theorem qO.get:∀{r:List SV} {ds:List DC},qO r ds->∀{c:Nat} {d:DC},ds[c]?=some d->∃s,r[c]?=some s/\(d= .v s\/(s= .val (.slice none 0 0)/\∃e,d= .uA e []))
 |s::r,d::ds,h,0,d',hc=>by simp at hc;subst hc;exact⟨s,rfl,h.1⟩
 |s::r,d::ds,h,c+1,d',hc=>by simpa using qO.get h.2 (by simpa using hc)
 | [],[],_,c,d,hc=>by simp at hc
 | [],_::_,h,_,_,_=>h.elim
 |_::_,[],h,_,_,_=>h.elim
def Hi(rs:List (List SV))(ds:List (List DC)):Prop:=ds.length=rs.length/\∀(a:Nat) (row':List DC),ds[a]?=some row'->∃row,rs[a]?=some row/\qO row row'
theorem uT.dS(i:Nat){es:Nat}{rs:List (List SV)}(ds:List (List DC))(hi:u5 i O=some (.rows es rs))(hd:Hi rs ds):uT M O nx (uI i (.deep false es ds) O) nx:=by
 refine⟨fun Y w H=>⟨Y,zu,?_⟩⟩;have u9:uM Y w true (.loc i) es rs:=(H.own.1 i _ hi).1
 have wY:∀{a b x},Ye ds a b=some x->x.2=[]/\∃row,rs[a]?=some row/\row[b]?=some (.val (.slice none 0 0)):=by
  intro a b x hx;obtain⟨x1,x2⟩:=x;obtain⟨row',h1,h2⟩:=uk.1 hx;obtain⟨row,h3,h4⟩:=hd.2 a row' h1;obtain⟨s,h5,h6⟩:=h4.get h2;rcases h6 with h6|⟨rfl,e,h6⟩
  cases h6
  injection h6 with _ h6;exact⟨h6,row,h3,h5⟩
 have hcell:∀{e o a b x},Y.get (.loc i)=some (some e)->w.heap[e.g]?=some o->Ye ds a b=some x->e.base=0/\x.2=[]/\ZI o es a b=some (.slice none 0 0):=by
  intro e o a b x he ho hx;obtain⟨h0,row,h1,h2⟩:=wY hx;rcases u9 with⟨h3,_⟩|⟨e',arr,T,fz,h3,h4,h5,h6⟩
  rw[h3]at he;cases he;rw[h3]at he;injection he with he;injection he with he;subst he
  rw[h4]at ho;injection ho with ho;subst ho
  have hb:=(h5 rfl).2.2.2;obtain⟨v,h7,_,h8⟩:=(h6 a row h1).2 b _ h2;rw[hb,zx]at h7;exact⟨hb,h0,by rw[<-h8.1];exact h7⟩
 refine H.mY hi (vT.qM (mp:=false) ?_ (fun h=>by cases h) fun e he=>?_) fun n f=>?_
 .rcases u9 with⟨h3,h4⟩|⟨e',arr,T,fz,h3,h4,h5,h6⟩
  .refine .inl ⟨h3,zM.1 ?_⟩;rw[Ya,hd.1,h4];rfl
  .refine .inr ⟨e',arr,T,fz,h3,h4,fun h=>by have:=h5 h;rwa [Ya,hd.1],fun a row' ha=>?_⟩;rw[Y9]at ha;obtain⟨dG,h7,rfl⟩:=zC.1 ha;obtain⟨row,h8,h9⟩:=hd.2 a dG h7;obtain⟨g1,g2⟩:=h6 a row h8;refine⟨by rw[zy,h9.len];exact g1,fun c sv hc=>?_⟩;rw[z6]at hc;obtain⟨d,h10,rfl⟩:=zC.1 hc;obtain⟨s,h11,h12⟩:=h9.get h10;obtain⟨v,k1,k2,k3⟩:=g2 c s h11;rcases h12 with rfl|⟨rfl,e,rfl⟩
   exact⟨v,k1,k2,k3⟩;exact⟨v,k1,k2,trivial⟩
 .have hb:e.base=0:=by
   rcases u9 with⟨h3,_⟩|⟨e',arr,T,fz,h3,h4,h5,h6⟩
   rw[h3]at he;cases he;rw[h3]at he;injection he with he;injection he with he;subst he;exact(h5 rfl).2.2.2
  refine⟨hb,fun o ho=>⟨fun a b es' rows hk=>?_,fun a b a' b' x x' v v' k h1 h2 h3 h4 h5 h6=>?_⟩⟩
  .obtain⟨_,h1,h2⟩:=hcell he ho hk;simp only at h1;subst h1;exact⟨_,h2, .inl ⟨rfl,rfl⟩,by simp[Value.ownBlock]⟩
  .obtain⟨_,_,g2⟩:=hcell he ho h1;rw[g2]at h3;injection h3 with h3;subst h3;cases h5
 .obtain⟨e,he,f⟩:=f;rcases f with rfl|f
  exact vY.own he
  .simp only[uA]at f;obtain⟨o,a,b,x,v,h1,h2,h3,h4⟩:=f;obtain⟨_,_,g2⟩:=hcell he h1 h2;rw[g2]at h3;injection h3 with h3;subst h3;cases h4
theorem uT.sn(i r c es':Nat){mp:Bool}{es:Nat}{rs:List (List DC)}{row:List DC}(hi:u5 i O=some (.deep mp es rs))(hr:rs[r]?=some row)(hc:row[c]?=some (.v (.val (.slice none 0 0)))):uT M O nx (uI i (.deep mp es (uB rs r c (.uA es' []))) O) nx:=
 ⟨fun Y w H=>⟨Y,zu,H.sn hi hr hc⟩⟩
theorem uT.take(i r c:Nat){mp:Bool}{es es':Nat}{rs:List (List DC)}{row:List DC}{rows:List (List SV)}(hi:u5 i O=some (.deep mp es rs))(hr:rs[r]?=some row)(hc:row[c]?=some (.uA es' rows)):
 uT M O nx ((nx, .rows es' rows)::uI i (.deep mp es (uB rs r c (.v (.sl (.loc nx) 0 es' rows.length none)))) O) (nx+1):=
 ⟨fun Y w H=>let⟨x,h⟩:=H.take hi hr hc;⟨Y++ [x],zz _ _,h⟩⟩
theorem vZ.reach{body:Code}{Q:Post}(t:Tmp){k es n:Nat}(ht:u5 t fr=some (.sl (.loc k) 0 es n none))(hn:0<n)(hd:t≠DS)(K:∀L,n<=L->vZ M body ((t, .sl (.loc k) 0 es n (some L))::fr) O nx Q):vZ M body fr O nx Q:=by
 refine⟨fun Y a w hm=>?_⟩;have h:=hm.frame t _ ht
 obtain⟨L,hL,hD⟩:∃L,n<=L/\Den Y (.sl (.loc k) 0 es n (some L)) (a.tmps.getD t undef):=by
  simp only[Den]at h⊢;rcases h with⟨_,_,h0⟩|⟨e,o,h1,h2,h3,h4,h5⟩
  omega;exact⟨e.cap,by simpa using h3, .inr ⟨e,o,h1,by simpa using h2,by simpa using h3,by simp,by simpa using h5⟩⟩
 refine(K L hL).out Y a w ⟨hm.heap,hm.size,hm.fK,?_,hm.ro,fun t' v ht'=>?_⟩;rw[Z8,z7 (yY hd)];exact hm.defers
 .rw[Z8]at ht';split at ht'
  rename_i e;subst e;injection ht' with ht';subst ht';exact hD
  exact hm.frame t' v ht'
theorem Hj{rs:List (List DC)}{r:Nat}{d:DC}{sv:SV}(h:rs[r]?=some [d]):(Zy (uB rs r 0 (.v sv)))[r]?=some [sv]:=by
 rw[Y9,Yl,zf rfl,h];rfl
end
end Go.Sx
namespace Go.Sx
open Go
def uL(w:World)(v:Value)(es:Nat)(rs:List (List SV))(en:Option wZ):Prop:=
 (∀x,en=some x->x.g<w.heap.size)/\∀(J:Env) (i:Nat),J[i]?=some en->Den J (.sl (.loc i) 0 es rs.length none) v/\vT J w false (.loc i) (.rows es rs)
theorem uL.now{w w':World}{F:Nat->Prop}{v:Value}{es:Nat}{rs:List (List SV)}{en:Option wZ}(h:uL w v es rs en)(hf:qW w w' F)(hF:∀k, ¬F k):uL w' v es rs en:=
 ⟨fun x hx=>yH (h.1 x hx) hf.size,fun J i hi=>⟨(h.2 J i hi).1,(h.2 J i hi).2.keep fun k f=>by
  obtain⟨e,he,f⟩:=f;rw[show J.get (.loc i)=some en from hi]at he;injection he with he;rcases f with rfl|f
  exact hf.block _ (h.1 e he) (hF _)
  exact f.elim⟩⟩
theorem R6{J η':Env}(hp:J<+:η'){v:Value}{x:SV}(hx:Den η' x v):∀{pre post:List SV} {vs:List Value},vV J (pre++ .val v::post) vs->vV η' (pre++x::post) vs
 | [],post,vs,h=>by
   simp only[List.nil_append,vV]at h⊢;obtain⟨u,us,h1,h2,h3⟩:=h;simp only[Den]at h2;obtain⟨rfl,_⟩:=h2;exact⟨u,us,h1,hx,h3.mono hp⟩
 |c::pre,post,vs,h=>by
  simp only[List.cons_append,vV]at h⊢;obtain⟨u,us,h1,h2,h3⟩:=h;exact⟨u,us,h1,h2.mono hp,R6 hp hx h3⟩
section
variable {M:Mx}{O:vX}{nx:Nat}
theorem CALL.G4{f:FuncId}{args:List SV}{K:SV->vX->Nat->Prop}{es:Nat}{rs:List (List SV)}{en:Option wZ}{v:Value}(pre post:List SV)(hv:uL M.w0 v es rs en)(hF:∀k, ¬M.F k)(ha:args=pre++ .val v::post)
 (hc:∀η1,CALL ⟨M.P,{M.C with S:=(.loc nx, .rows es rs)::M.C.S},M.w0,M.F,η1,none⟩ f (pre++ .sl (.loc nx) 0 es rs.length none::post) O (nx+1) K):CALL M f args O nx K:=by
 refine⟨fun J w vs H hd=>?_⟩;subst ha;have hpre:J<+:J++ [en]:=zz _ _;have hnew:(J++ [en])[nx]?=some en:=by rw[zw (by rw[H.len];omega),H.len];simp
 obtain⟨h1,h2⟩:=hv.2 _ _ hnew
 have hold:∀{b h},ez M.C b=some h->∀k,vY (J++ [en]) M.w0 b h k->vY M.η0 M.w0 b h k:=fun{b h} hb k f=>by
  obtain⟨x,hx,_⟩:=(H.wm b h hb).1.lt;exact f.less (H.pre.trans hpre) hx
 have H1:vR ⟨M.P,{M.C with S:=(.loc nx, .rows es rs)::M.C.S},M.w0,M.F,J++ [en],none⟩ (J++ [en]) w O (nx+1):=by
  refine⟨zu,by simp[H.len],⟨fun i h hi=>⟨(H.own.1 i h hi).1.mono hpre,fun k f=>(H.own.1 i h hi).2 k (H.stands hpre hi (fun _ _=>rfl) f)⟩,
   fun i j h h' k hi hj hne f f'=>H.own.2 i j h h' k hi hj hne (H.stands hpre hi (fun _ _=>rfl) f) (H.stands hpre hj (fun _ _=>rfl) f')⟩,H.fr,fun b h hb=>?_⟩
  have old:ez M.C b=some h->vT (J++ [en]) M.w0 false b h/\∀k,vY (J++ [en]) M.w0 b h k->k<M.w0.heap.size/\¬M.F k:=fun hb=>
   ⟨(H.wm b h hb).1.mono (H.pre.trans hpre),fun k f=>(H.wm b h hb).2 k (hold hb k f)⟩
  cases b with
  |uH g=>exact old hb
  |loc i=>
   simp only[ez,qv,bA]at hb;cases hi:Nat.beq i nx with
   |false=>rw[hi]at hb;exact old hb
   |true=>
    rw[hi]at hb;injection hb with hb;subst hb;have hi:=Zr hi;subst hi;refine⟨h2,fun k f=>⟨?_,hF k⟩⟩;obtain⟨e,he,f⟩:=f;rw[show(J++ [en]).get (.loc i)=some en from hnew]at he;injection he with he;have:=hv.1 e he;rcases f with rfl|f
    exact this;exact f.elim
 refine((hc (J++ [en])).out (J++ [en]) w vs H1 (R6 hpre h1 hd)).mono fun v' w' ⟨r,O',vW,η',h3,h4,h5,h6⟩=>?_;exact⟨r,O',vW,η',hpre.trans h3,⟨(H.pre.trans hpre).trans h3,h4.len,h4.own,h4.fr,H.wm⟩,h5,h6⟩
variable {J:Env}{w:World}
end
structure gM(J:Env)(w:World)(i es:Nat)(rs:List (List DC))(R:List (List SV)):Prop where
 sat:vT J w false (.loc i) (.rows es R)
 len:R.length=rs.length
 cv:∀(r c:Nat) (row:List DC) (sv:SV),rs[r]?=some row->row[c]?=some (DC.v sv)->∃rw:List SV,R[r]?=some rw/\rw[c]?=some sv
 ck:∀(r c:Nat) (row:List DC) (es':Nat) (rows:List (List SV)),rs[r]?=some row->row[c]?=some (DC.uA es' rows)->∃(rw:List SV) (v:Value),R[r]?=some rw/\rw[c]?=some (SV.val v)/\uV J w v es' rows
 lens:∀(r:Nat) (row:List DC) (rw:List SV),rs[r]?=some row->R[r]?=some rw->rw.length=row.length
def WY(arr:Array Value)(o:Nat):Nat->List DC->List SV
 |_,[]=>[]
 |j, .v sv::r=>sv::WY arr o (j+1) r
 |j, .uA _ _::r=> .val (arr.getD (o+j) undef)::WY arr o (j+1) r
theorem Wz(arr:Array Value)(o:Nat):∀(j:Nat) (r:List DC),(WY arr o j r).length=r.length
 |_,[]=>rfl
 |j, .v sv::r=>by simp[WY,Wz arr o (j+1) r]
 |j, .uA _ _::r=>by simp[WY,Wz arr o (j+1) r]
theorem U5(arr:Array Value)(o:Nat):∀(r:List DC) (j c:Nat),(WY arr o j r)[c]?=(r[c]?).map fun d=>match d with| .v sv=>sv| .uA _ _=> .val (arr.getD (o+(j+c)) undef)
 | [],j,c=>by simp[WY]
 | .v sv::r,j,0=>rfl
 | .uA _ _::r,j,0=>rfl
 | .v sv::r,j,c+1=>by
   simp only[WY,List.getElem?_cons_succ];rw[U5 arr o r (j+1) c];cases r[c]? with
   |none=>rfl
   |some d=>cases d<;>simp only[Option.map_some];rw[show j+1+c=j+(c+1)by omega]
 | .uA _ _::r,j,c+1=>by
   simp only[WY,List.getElem?_cons_succ];rw[U5 arr o r (j+1) c];cases r[c]? with
   |none=>rfl
   |some d=>cases d<;>simp only[Option.map_some];rw[show j+1+c=j+(c+1)by omega]
theorem Bi{J:Env}{w:World}{i es:Nat}{rs:List (List DC)}(d:vT J w true (.loc i) (.deep false es rs)):∃R,gM J w i es rs R:=by
 simp only[vT]at d;obtain⟨h1,h2⟩:=d;rcases h1 with⟨hn,h0⟩|⟨e,arr,T,fz,he,ho,hown,hc⟩
 .have h0:rs=[]:=by simpa[Zy]using h0
  subst h0;refine⟨[],?_,rfl,fun r c row sv h=>by simp at h,fun r c row es' rows h=>by simp at h,fun r row rw h=>by simp at h⟩;simp only[vT];exact .inl ⟨hn,trivial⟩
 obtain⟨hb,hk⟩:=h2 e he;have hK:=hk _ ho
 have hrow:∀(r:Nat) (row:List DC),rs[r]?=some row->row.length=es/\uj J arr (e.base+r*es) (row.map ZS):=fun r row hr=>by
  have:=hc r (row.map ZS) (by unfold Zy;rw[z6,hr];rfl);rw[zy]at this;exact this
 have wY:∀(r c:Nat) (row:List DC) (es':Nat) (rows:List (List SV)),rs[r]?=some row->row[c]?=some (.uA es' rows)->uV J w (arr.getD (e.base+r*es+c) undef) es' rows/\(arr.getD (e.base+r*es+c) undef).oneCell'=true/\arr[e.base+r*es+c]?=some (arr.getD (e.base+r*es+c) undef):=fun r c row es' rows hr eY=>by
  obtain⟨v,h3,h4,_⟩:=hK.sat r c es' rows (uk.2 ⟨row,hr,eY⟩);obtain⟨u,h5,h6,_⟩:=(hrow r row hr).2 c .any (by rw[z6,eY];rfl);simp only[ZI]at h3;rw[hb,zx]at h5⊢;rw[h3]at h5;injection h5 with h5;subst h5;have:arr.getD (r*es+c) undef=v:=by rw[zZ,h3];rfl
  rw[this];exact⟨h4,h6,h3⟩
 refine⟨(List.range rs.length).map fun r=>WY arr (e.base+r*es) 0 (rs.getD r []),?_,by simp,?_,?_,?_⟩
 .simp only[vT];refine .inr ⟨e,arr,T,fz,he,ho,(fun h=>by cases h),fun r j9 hr=>?_⟩;rw[z6]at hr;obtain⟨r',h3,rfl⟩:=zC.1 hr;obtain⟨h4,rfl⟩:=ze.1 h3;rw[yE]at h4;simp only[yS];have hg:rs[r]?=some (rs.getD r []):=by rw[zl,z1 h4];rfl
  obtain⟨h5,h6⟩:=hrow r _ hg;refine⟨by rw[Wz,h5],fun c sv mB=>?_⟩;rw[U5]at mB;obtain⟨d,h7,h8⟩:=zC.1 mB;cases d with
  |v s=>
   simp only at h8;subst h8;exact h6 c s (by rw[z6,h7];rfl)
  |uA es' rows=>
   simp only at h8;subst h8;obtain⟨_,k2,k3⟩:=wY r c _ es' rows hg h7;rw[zx];exact⟨_,k3,k2,by simp only[Den];exact⟨trivial,k2⟩⟩
 .intro r c row sv hr mB;have h4:=(ze.1 hr).1;refine⟨_,by rw[z6,yG h4];rfl,?_⟩;rw[U5,zl,hr,Option.getD_some,mB];rfl
 .intro r c row es' rows hr mB;have h4:=(ze.1 hr).1;refine⟨_,arr.getD (e.base+r*es+c) undef,by rw[z6,yG h4];rfl,?_,(wY r c row es' rows hr mB).1⟩;rw[U5,zl,hr,Option.getD_some,mB];simp only[Option.map_some,zx]
 .intro r row j9 hr h3;have h4:=(ze.1 hr).1;rw[z6,yG h4]at h3;injection h3 with h3;rw[<-h3,Wz,zl,hr];rfl
theorem R7{J:Env}{w:World}{v:Value}{es:Nat}{rows:List (List SV)}(h:uV J w v es rows)(hp:Zj rows=true):∃en,uL w v es rows en:=by
 rcases h with⟨rfl,rfl⟩|⟨g,cap,arr,T,fz,rfl,k2,k3,k4,k5,k6⟩
 .refine⟨none,(fun x h=>by cases h),fun η' i hi=>⟨?_,?_⟩⟩;simp only[Den];exact .inl ⟨hi,trivial,rfl⟩;simp only[vT];exact .inl ⟨hi,trivial⟩
 .refine⟨some ⟨g,0,cap⟩,fun x h=>?_,fun η' i hi=>⟨?_,?_⟩⟩;injection h with h;subst h;exact(zA.1 k2).1
  .simp only[Den];exact .inr ⟨⟨g,0,cap⟩,0,hi,by simp,by simpa using k5,zo _,fun _=>by simp⟩
  .simp only[vT];refine .inr ⟨⟨g,0,cap⟩,arr,T,fz,hi,k2,(fun h=>by cases h),fun r row hr=>?_⟩;obtain⟨h1,h2⟩:=k6 r row hr;exact⟨h1,h2.plain (J9 hp hr)⟩
def me(M:Mx)(O:vX)(J:Env)(w:World)(i es:Nat)(R:List (List SV)):Mx:=⟨M.P,{M.C with S:=(.loc i, .rows es R)::(iN M.C O).S},w,fun _=>False,J,none⟩
section
variable {M:Mx}{J:Env}{w:World}{O:vX}{nx:Nat}
theorem vR.raw(H:vR M J w O nx){i es:Nat}{R:List (List SV)}(hs:vT J w false (.loc i) (.rows es R)):vR (me M O J w i es R) J w [] nx:=by
 refine⟨zu,H.len,⟨fun i h hi=>by simp[u5]at hi,fun i j h h' n hi=>by simp[u5]at hi⟩,qW.refl _ _,fun b h hb=>?_⟩
 have go:Yn M.C O b=some h->vT J w false b h/\∀k,vY J w b h k->k<w.heap.size/\¬False:=fun hb=>by
  have u9:=H.look hb;exact⟨u9,fun k f=>⟨u9.uy f,fun h=>h⟩⟩
 cases b with
 |uH g=>exact go (by rw[<-Du];exact hb)
 |loc j=>
  simp only[me,ez,qv,bA]at hb;cases e:Nat.beq j i with
  |false=>rw[e]at hb;exact go (by rw[<-Du];exact hb)
  |true=>
   rw[e]at hb;injection hb with hb;subst hb;have:=Zr e;subst this;exact⟨hs,fun k f=>⟨hs.uy f,fun h=>h⟩⟩
structure dn(M:Mx)(f:FuncId)(args:List SV)(O:vX)(nx:Nat)(r:SV):Prop where
 out:∀J w vs,vR M J w O nx->vV J args vs->kq M.P f ⟨vs⟩ w fun v w'=>Den J r v/\qW w w' fun _=>False
theorem vR.cV(H:vR M J w O nx){w':World}(hf:qW w w' fun _=>False):vR M J w' O nx:=by
 have hk:∀{i h},u5 i O=some h->∀k,vY J w (.loc i) h k->w'.heap[k]?=w.heap[k]?:=fun hi k f=>hf.block k ((H.own.1 _ _ hi).1.uy f) (fun h=>h);have hb:∀{i h},u5 i O=some h->∀k,vY J w' (.loc i) h k->vY J w (.loc i) h k:=fun hi k f=>H.stands zu hi (hk hi) f;exact⟨H.pre,H.len,⟨fun i h hi=>⟨(H.own.1 i h hi).1.keep (hk hi),fun k f=>(H.own.1 i h hi).2 k (hb hi k f)⟩,fun i j h h' k hi hj hij f f'=>H.own.2 i j h h' k hi hj hij (hb hi k f) (hb hj k f')⟩,H.fr.trans hf (fun n h=>h.elim),H.wm⟩
theorem CALL.quiet{f:FuncId}{args:List SV}{r:SV}{K:SV->vX->Nat->Prop}(h:dn M f args O nx r)(hK:K r O nx):CALL M f args O nx K:=
 ⟨fun J w vs H hd=>(h.out J w vs H hd).mono fun v w' ⟨h1,h2⟩=>⟨r,O,nx,J,zu,H.cV h2,h1,hK⟩⟩
theorem dn.raw{f:FuncId}{args:List SV}{r:SV}{i es:Nat}{rs:List (List DC)}(hi:u5 i O=some (.deep false es rs))(hp:plain r=true)
 (h:∀J w R,vR M J w O nx->gM J w i es rs R->CALL (me M O J w i es R) f args [] nx fun r' _ _=>r'=r):dn M f args O nx r:=by
 refine⟨fun J w vs H hd=>?_⟩;obtain⟨R,hR⟩:=Bi (H.own.1 i _ hi).1;refine((h J w R H hR).out J w vs (H.raw hR.sat) hd).mono fun v w' ⟨r',O',vW,η',_,h4,h5,h6⟩=>?_;subst h6;exact⟨Den.ug (σ:=id) (k:=0) (fun i x hi=>by omega) (XA 0 hp) (by rw[X8 _ hp];exact h5),h4.fr⟩
theorem CALL.Q4{G:World->Prop}{f:FuncId}{args:List SV}{K:SV->vX->Nat->Prop}{k:Nat}{uD:List SV}{Oc Sc:vX}{Q:SV->vX->Nat->Prop}(L:List Nat)(sp:fR G M.P M.C.T f k uD Oc Sc Q)(hG:∀J w,vR M J w O nx->G w)
 (hL:L.length=k) (eG:∀i∈L,i<nx) (ha:args=uJ (Zm L nx) uD) (hb:ZR k uD=true)
 (hO:∀p∈Oc,p.1<k/\u5 (Zm L nx p.1) O=some (um (Zm L nx) p.2)/\Zh k p.2=true)
 (sF:∀j∈Zb Oc,∀j'∈Zb Oc,Zm L nx j=Zm L nx j'->j=j')
 (hS:∀p∈Sc,p.1<k/\Yn M.C O (.loc (Zm L nx p.1))=some (um (Zm L nx) p.2)/\Zh k p.2=true/\Zm L nx p.1∉ (Zb Oc).map (Zm L nx))
 (hK:∀r O' vW,Q r O' vW->K (ur (Zm L nx) r) (qa (Zm L nx) O'++ZY ((Zb Oc).map (Zm L nx)) O) (nx+(vW-k))):CALL M f args O nx K:=by
 refine⟨fun J w vs H hd=>?_⟩;obtain⟨Mc,h1,h2,h3,h4,h5,h6,h7,h8⟩:=Dj L hL eG ha hb hO sF hS H hd;refine(h1▸h5▸(sp.out Mc vs h1 h2 h3 h4 h6 h7 (h5▸hG J w H))).mono ?_;rintro v w' ⟨r,O',vW,η',hq,hpre,H',ga⟩;obtain⟨η2,k1,k2,k3⟩:=h8 r O' vW η' v w' hpre H' ga;exact⟨_,_,_,η2,k1,k2,k3,hK r O' vW hq⟩
end
end Go.Sx
namespace Go.Sx
open Go Go.Sort Go.Shelf Go.Proofs Go.Our
def Y8(x:Nat):List SV:=[.int .i64 (x:Int)]
instance :dZ Y8:=⟨fun _=>rfl⟩
section
variable {M:Mx}{J:Env}{w:World}{O:vX}{nx:Nat}
theorem vR.other(H:vR M J w O nx){w':World}{j:Nat}{h0:Hp}(hj:u5 j O=some h0){e:wZ}(he:J[j]?=some (some e))(wG:∀k,k<w.heap.size->k≠e.g->w'.heap[k]?=w.heap[k]?)(hsz:w.heap.size<=w'.heap.size)
 (ho:w'.os=w.os) (ht:w'.tape=w.tape) (hp:w'.output=w.output) (ga:w.drawn<=w'.drawn):vR M J w' (uU j O) nx:=by
 have fi:vY J w (.loc j) h0 e.g:=vY.own he
 have back:∀{i h},u5 i (uU j O)=some h->i≠j/\u5 i O=some h:=fun{i h} hi=>by
  have hne:i≠j:=fun e=>by subst e;rw[Yd]at hi;cases hi
  exact⟨hne,by rw[<-XS j O i hne];exact hi⟩
 have keep:∀{i h},u5 i (uU j O)=some h->∀k,vY J w (.loc i) h k->w'.heap[k]?=w.heap[k]?:=fun{i h} hi k f=>
  wG k ((H.own.1 i h (back hi).2).1.uy f) fun hk=>H.own.2 i j h h0 k (back hi).2 hj (back hi).1 f (hk▸fi)
 have bk:∀{i h},u5 i (uU j O)=some h->∀k,vY J w' (.loc i) h k->vY J w (.loc i) h k:=fun{i h} hi k f=>H.stands zu (back hi).2 (keep hi) f
 refine⟨H.pre,H.len,⟨fun i h hi=>⟨(H.own.1 i h (back hi).2).1.keep (keep hi),fun k f=>(H.own.1 i h (back hi).2).2 k (bk hi k f)⟩,fun i i' h h' k hi hi' hne f f'=>H.own.2 i i' h h' k (back hi).2 (back hi').2 hne (bk hi k f) (bk hi' k f')⟩,
  ⟨ho.trans H.fr.os,ht.trans H.fr.tape,hp.trans H.fr.output,zO H.fr.drawn ga,zO H.fr.size hsz,fun k hk hF=>?_⟩,H.wm⟩
 rw[wG k (yH hk H.fr.size) ?_];exact H.fr.block k hk hF
 .intro hke;subst hke;rcases H.QA hj he with h1|h1
  exact hF h1;omega
end
section
variable {Y:Type}[Inhabited Y](enc:Y->Value)
theorem Ux(w:World)(blk m:Nat)(d:Array Y):(putRow enc (Sort.ahead w m) blk 0 d).heap=(mapBlock w blk (putCells enc 0 d)).heap:=by simp[putRow,mapBlock,Sort.ahead]
theorem WZ(w:World)(blk m:Nat)(d:Array Y){g:Nat}(hne:g≠blk):(putRow enc (Sort.ahead w m) blk 0 d).heap[g]?=w.heap[g]?:=by
 rw[Ux];simp only[mapBlock,yh];rw[z7 (fun h=>hne h.symm)]
theorem Z8F(w:World)(blk m:Nat)(d:Array Y){c:Array Value}{T:TypeId}{fz:Nat×Nat}(h:w.heap[blk]?=some (.cells c T fz)):(putRow enc (Sort.ahead w m) blk 0 d).heap[blk]?=some (.cells (putCells enc 0 d c) T fz):=by
 rw[Ux];simp only[mapBlock,yh,yJ,h,Option.map_eq_map,Option.map_some,onCells]
theorem R8(w:World)(blk m:Nat)(d:Array Y):(putRow enc (Sort.ahead w m) blk 0 d).heap.size=w.heap.size:=by rw[Ux];simp[mapBlock]
end
theorem R9(w:World)(os:Array Obj):qW w (grow w os) fun _=>False:=
 ⟨rfl,rfl,rfl,zo _,by simp[grow],fun k hk _=>by simp only[grow];exact y9 hk⟩
theorem Ziw{Y:Type}{c:Y->Y->Int}(h:Pre c):SWO (ltOf c) where
 irrefl x:=by unfold ltOf;have:=h.refl x;simp;omega
 trans x y z h1 h2:=by
  unfold ltOf at*;simp only[yw]at*;exact h.aG h1 (by omega)
 ntrans x y z h1 h2:=by
  unfold ltOf at*;simp only[yl]at*;have a1:=h.anti x y;have a2:=h.anti y z;have a3:=h.anti x z;have:=h.trans z y x (by omega) (by omega);omega
theorem CALL.G5{M:Mx}{O:vX}{nx:Nat}{P:Program}{ρ:Ren}(L:SlLaysF.n6 P ρ)(ef:∀args w,(callFunc (ρ.f 6) args).run P w= .ok (.enter (ρ.f 6) args) w){g:FuncId}(eg:∀args w,(callFunc g args).run P w= .ok (.enter g args) w){f6:FuncId}(hf6:f6=ρ.f 6)(hP:M.P=P)
 {caps:List SV} {cf:Nat->Nat->Int} {l:List Nat} {n i len:Nat} {K:SV->vX->Nat->Prop} (hlen:len=l.length) (hi:u5 i O=some (.rows 1 (l.map Y8))) (hn:∀x∈l,x<n) (hl:l.length<4611686018427387904) (hc:Pre cf)
 (hq:∀x y,x<n->y<n->dn M g ([.int .i64 (x:Int), .int .i64 (y:Int)]++caps) (uU i O) nx (.int .i64 (cf x y)))
 (hK:∀l':List Nat,l'.Perm l->l'.Pairwise (fun a b=>cf a b<=0)->K (.uz []) (uI i (.rows 1 (l'.map Y8)) O) nx):CALL M f6 [.sl (.loc i) 0 1 len none, .fn (.func g) [] caps] O nx K:=by
 subst hlen hP hf6;refine⟨fun J w vs H hd=> .inl ⟨ρ.f 6,ef _ _,?_⟩⟩;simp only[vV]at hd;obtain⟨v,us,rfl,hv,f,us',rfl,hf,rfl⟩:=hd;simp only[Den]at hf;obtain⟨ff,fc,rfl,Kw,s5⟩:=hf;simp only[vV]at Kw;subst Kw;have u9:=(H.own.1 i _ hi).1;simp only[vT]at u9;simp only[Den]at hv;by_cases l0:l=[]
 .subst l0
  have wK:vR M J w (uI i (.rows 1 []) O) nx:=by
   have aux:∀(j:Nat) (h:Hp),u5 j (uI i (.rows 1 []) O)=some h->u5 j O=some h:=fun j h hj=>by
    rw[Y1 _ _ _ _ (by rw[hi];rfl)]at hj;split at hj
    rename_i e;subst e;rw[<-hj];exact hi;exact hj
   exact{pre:=H.pre,len:=H.len,wm:=H.wm,fr:=H.fr,own:=⟨fun j h hj=>H.own.1 j h (aux j h hj),fun j k h h' m hj hk=>H.own.2 j k h h' m (aux j h hj) (aux k h' hk)⟩}
  obtain⟨p,cap,rfl⟩:∃p cap,v= .slice p 0 cap:=by
   rcases hv with⟨_,h,_⟩|⟨e,o,_,h,_⟩
   exact⟨_,_,h⟩;exact⟨_,_,h⟩
  refine(AnyF.slices_SortFunc_none {L with} p cap _ w).mono ?_;rintro e w' ⟨rfl,rfl⟩;exact⟨_,rfl, .uz [],_,nx,J,zu,wK,by simp only[Den,vV];exact⟨[],rfl,rfl⟩,hK [] (vq _) List.Pairwise.nil⟩
 rcases u9 with⟨_,h⟩|⟨e,arr,Tt,fz,he,hheap,hown,hcells⟩
 exact(l0 (by simpa using h)).elim;obtain⟨x0,hx0⟩:=List.exists_mem_of_ne_nil l l0;have hn0:0<n:=Nat.lt_of_le_of_lt (ve _) (hn x0 hx0);obtain⟨hun,hsz,hle,hb0⟩:=hown trivial;rw[zy]at hle
 obtain⟨hel,th⟩:l.length<=e.cap/\v= .slice (some ⟨e.g,0,none⟩) l.length e.cap:=by
  rcases hv with⟨h,_⟩|⟨e',o,h,h2,h3,h4,h5⟩
  rw[he]at h;cases h
  .rw[he]at h;cases h;simp only[Option.getD_none,zx,Nat.sub_zero]at h2 h3;have:=h5 (.inr trivial);rw[hb0]at this;simp only[yO,Nat.add_zero]at this;subst this;exact⟨h3,h2⟩
 subst th;have he':J[i]?=some (some e):=he;have hblk:e.g<w.heap.size:=(zA.1 hheap).1;have hsize:l.length<=arr.size:=by rw[hsz];omega
 haveI:Inhabited (Fin n):=⟨⟨0,hn0⟩⟩;obtain⟨enc,mZ⟩:∃enc:Fin n->Value,enc=fun x=> .int .i64 ((x.val:Nat):Int):=⟨_,rfl⟩;obtain⟨lF,Bj⟩:∃lF:List (Fin n),lF.map (·.val)=l:=⟨l.pmap (fun x h=>⟨x,h⟩) hn,by rw[List.map_pmap];simp⟩;have mz:lF.length=l.length:=by rw[<-Bj,zy]
 have hcell:∀(t:Nat) (x:Nat),l[t]?=some x->arr[t]?=some (.int .i64 (x:Int)):=by
  intro t x ht;obtain⟨h1,h2⟩:=hcells t (Y8 x) (by rw[z6,ht];rfl);obtain⟨u,h3,h4,h5⟩:=h2 0 (.int .i64 (x:Int)) rfl;rw[hb0,zx,xL,Nat.add_zero]at h3;simp only[Den]at h5;rw[h3,h5]
 have hH:Holds enc w e.g 0 lF.toArray:=by
  intro t ht;rw[ye]at ht;have h4:=hcell t (lF[t]).val (by rw[<-Bj,z6,z1 ht];rfl);refine⟨by rw[zx,FK hheap,h4,mZ];simp[ht],?_⟩;have:=hun t (by omega);simp only[World.frozen?,hheap,zx];simpa using this
 have hcmp:CmpLays1 M.P g ⟨fc⟩ enc (fun x y=>cf x.val y.val) e.g 0 lF.toArray.size w:=by
  intro m os dk hdk x y
  have H':vR M J (sortWorld enc w e.g 0 m dk os) (uU i O) nx:=by
   have h1:vR M J (putRow enc (Sort.ahead w m) e.g 0 dk) (uU i O) nx:=H.other hi he' (fun k _ hne=>WZ enc w e.g m dk hne) (by rw[R8];exact zo _) rfl rfl rfl (by simp[putRow,Sort.ahead,mapBlock]);exact h1.cV (R9 _ os)
  have hd':vV J ([.int .i64 ((x.val:Nat):Int), .int .i64 ((y.val:Nat):Int)]++caps) (enc x::enc y::fc):=by
   simp only[List.cons_append,List.nil_append,vV,Den];exact⟨_,_,by rw[mZ],rfl,_,_,rfl,rfl,s5⟩
  rcases(hq x.val y.val x.2 y.2).out J _ _ H' hd' with⟨g',h1,h2⟩|⟨v,w',h1,_⟩
  .rw[eg]at h1;injection h1 with h1 _;injection h1 with h1 _;subst h1;refine(show #[enc x,enc y]++(⟨fc⟩:Array Value)=⟨enc x::enc y::fc⟩by simp)▸h2.mono ?_;rintro e w' ⟨v,rfl,hv,hf⟩;simp only[Den]at hv;subst hv;exact⟨rfl,hf.grown⟩
  rw[eg]at h1;cases h1
 have hpc:Pre (fun x y:Fin n=>cf x.val y.val):=⟨fun a b=>hc.anti _ _,fun a b d=>hc.trans _ _ _⟩;have hmain:=Any.slices_SortFunc L enc (fun x=>by rw[mZ];rfl) (fun x y:Fin n=>cf x.val y.val) (Ziw hpc) g ⟨fc⟩ e.g 0 e.cap lF.toArray w eg hcmp hH hblk (by rw[ye,mz];exact hl);rw[ye,mz]at hmain;refine hmain.mono ?_;rintro e1 w' ⟨rfl,d',m,os,hP,hS,rfl⟩;obtain⟨p1,_,p3⟩:=hP;have p1:d'.size=l.length:=by rw[<-mz];simpa using p1
 have G6:(d'.toList.map (·.val)).Perm l:=by
  rw[<-Bj];refine List.Perm.map _ ?_;have e1:d'.extract 0 l.length=d':=by rw[<-p1];simp
  have e2:lF.toArray.extract 0 l.length=lF.toArray:=by rw[<-mz];simp
  rw[e1,e2]at p3;exact p3
 have qm:∀(t:Nat) (ht:t<l.length),d'[t]! =d'[t]'(by omega):=fun t ht=>by rw[getElem!_pos d' t (by omega)]
 have hpw:(d'.toList.map (·.val)).Pairwise fun a b=>cf a b<=0:=by
  rw[List.pairwise_map,xk];intro a b ha hb hab;simp only[Array.length_toList,p1]at ha hb;have:=hS a b (ve _) hab hb;rw[qm a ha,qm b hb]at this;unfold ltOf at this;have h2:=hc.anti (d'[b]'(by omega)).val (d'[a]'(by omega)).val;simp only[yl]at this;simp only[Array.getElem_toList];omega
 refine⟨_,rfl, .uz [],_,nx,J,zu,?_,by simp only[Den,vV];exact⟨[],rfl,rfl⟩,hK _ G6 hpw⟩;refine vR.cV (w:=putRow enc (Sort.ahead w m) e.g 0 d') ?_ (R9 _ os);refine H.kZ hi he' (fun k hne=>WZ enc w e.g m d' hne) (R8 ..) rfl rfl rfl ?_ (by simp[putRow,Sort.ahead,mapBlock]);simp only[vT];refine .inr ⟨e,_,Tt,fz,he,Z8F enc w e.g m d' hheap,fun _=>⟨?_,?_,?_,hb0⟩,fun t j9 ht=>?_⟩;simp only[putCells,xu];exact hun;simp only[putCells,xu];exact hsz;rw[zy,zy,Array.length_toList,p1];exact hel
 .rw[z6,z6]at ht;obtain⟨x,hx,rfl⟩:=zC.1 ht;obtain⟨y,hy,rfl⟩:=zC.1 hx;refine⟨rfl,fun j sv hj=>?_⟩;have lT:t<l.length:=by have:=(ze.1 hy).1;rw[Array.length_toList,p1]at this;exact this
  match j,hj with
  |0,hj=>
   simp only[Y8,List.getElem?_cons_zero,zi]at hj;subst hj;refine⟨.int .i64 ((y.val:Nat):Int),?_,rfl,by simp only[Den]⟩;have hlt:t<arr.size:=by omega
   rw[hb0,zx,xL,Nat.add_zero];have G7:d'[t]! =y:=by rw[qm t lT];have:=(ze.1 hy).2;rw[<-this,Array.getElem_toList]
   have G8:t<0+d'.size:=by omega
   simp only[putCells,vm,yL hlt,Option.map_some,ve,xI,zx,p1,lT,yJ,Nat.sub_zero,G7,mZ]
end Go.Sx
namespace Go.Our
open Go Go.Sx
section
variable {K:Type}{es:Nat}{f:K->List SV}
def kD(es:Nat)(f:K->List SV)(ss:List (List K)):List (List DC):=ss.map fun l=>[.uA es (l.map f)]
theorem Ra[p:dZ f]:∀ss:List (List K),ZB (kD es f ss)=true
 | []=>rfl
 |l::ss=>by simp only[kD,zG,ZB,Yr,JN,ZD f p.h l,zB,xd];exact Ra ss
instance [dZ f]{ss:List (List K)}:bu (kD es f ss):=⟨Ra ss⟩
theorem Rb{ss:List (List K)}{i k:Nat}(h:i<ss.length)(hk:k=i):(kD es f ss)[k]?=some [.uA es (ss[i].map f)]:=by
 subst hk;unfold kD;rw[z6,z1 h];rfl
theorem Zgp{ss:List (List K)}{i k:Nat}{rows:List (List SV)}{n:Nat}{l:List K}(hk:k=i)(hr:rows.take n=l.map f):(kD es f ss).modify k (fun row=>row.set 0 (.uA es (rows.take n)))=kD es f (ss.set i l):=by
 subst hk;rw[hr];unfold kD;apply yu;intro a;rw[yo,z6,z6,xB];by_cases ha:k=a
 .subst ha;rw[zf rfl];cases h:ss[k]? with
  |none=>rw[z7 (by rw[List.getElem?_eq_none_iff]at h;omega)];simp
  |some x=>rw[zf (ze.1 h).1];simp
 .rw[z7 ha];cases ss[a]?<;>simp[ha]
theorem Rc{ss:List (List K)}{i k:Nat}{sv:SV}(h:i<ss.length)(hk:k=i):(uB (kD es f ss) k 0 (.v sv))[i]?=some [.v sv]:=by
 subst hk;rw[Yl,zf rfl,Rb h rfl];rfl
theorem Zix{ss:List (List K)}{i k n:Nat}{sv:SV}(h:i<ss.length)(hk:k=i)(hn:n=ss[i].length):uB (uB (kD es f ss) k 0 (.v sv)) i 0 (.uA es ((ss[i].map f).take n))=kD es f ss:=by
 subst hk hn;rw[qZ,zg (by rw[zy];exact zo _)];apply yu;intro a;rw[Yl];by_cases ha:a=k
 subst ha;rw[zf rfl,Rb h rfl];rfl;rw[z7 ha]
end
end Go.Our
namespace Go.Sx
open Go
section
variable {M:Mx}{O:vX}{nx:Nat}
theorem CALL.part{f:FuncId}{K:SV->vX->Nat->Prop}{es n o i:Nat}{rs:List (List SV)}{lim:Option Nat}(hb:ez M.C (.loc i)=some (.rows es rs))(hn:0<n)
 (hc:∀η1,CALL ⟨M.P,{M.C with S:=(.loc nx, .rows es (rs.drop o))::M.C.S},M.w0,M.F,η1,none⟩ f [.sl (.loc nx) 0 es n none] O (nx+1) K):CALL M f [.sl (.loc i) o es n lim] O nx K:=by
 refine⟨fun J w vs H hd=>?_⟩;simp only[vV,Den]at hd;obtain⟨v,us,rfl,hv,rfl⟩:=hd;rcases hv with⟨_,_,h0⟩|⟨e,o',he,hv,hle,hcap,hof⟩
 omega;obtain⟨u9,hft⟩:=H.wm _ _ hb;have hx:∃x:wZ,x=⟨e.g,e.base+o*es,lim.getD e.cap-o⟩:=⟨_,rfl⟩;obtain⟨x,hx⟩:=hx;have hpre:J<+:J++ [some x]:=zz _ _;have hnew:(J++ [some x])[nx]?=some (some x):=by rw[zw (by rw[H.len];omega),H.len];simp
 have nC:vT (J++ [some x]) M.w0 false (.loc i) (.rows es rs):=u9.mono (H.pre.trans hpre);have mQ:(J++ [some x]).get (.loc i)=some (some e):=Env.uc hpre he
 have he0:M.η0.get (.loc i)=some (some e):=by
  obtain⟨y,hy,_⟩:=u9.lt;have:=(Env.uc H.pre hy).symm.trans he;rw[hy,this]
 have hlt:e.g<M.w0.heap.size/\¬M.F e.g:=hft _ (vY.own he0)
 have hold:∀{b h},ez M.C b=some h->∀k,vY (J++ [some x]) M.w0 b h k->vY M.η0 M.w0 b h k:=fun{b h} hb k f=>by
  obtain⟨y,hy,_⟩:=(H.wm b h hb).1.lt;exact f.less (H.pre.trans hpre) hy
 have h2:vT (J++ [some x]) M.w0 false (.loc nx) (.rows es (rs.drop o)):=by
  simp only[vT]at nC⊢;rcases nC with⟨h3,_⟩|⟨e',arr,T,fz,h3,h4,_,h6⟩
  rw[mQ]at h3;cases h3
  .rw[mQ]at h3;injection h3 with h3;injection h3 with h3;subst h3
   refine .inr ⟨x,arr,T,fz,hnew,by rw[hx];exact h4,(fun h=>by cases h),fun r row hr=>?_⟩;rw[y6]at hr;obtain⟨h7,h8⟩:=h6 _ _ hr;refine⟨h7,?_⟩;have Hv:x.base=e.base+o*es:=by rw[hx]
   rw[Hv];rw[xK,<-xD]at h8;exact h8
 have H1:vR ⟨M.P,{M.C with S:=(.loc nx, .rows es (rs.drop o))::M.C.S},M.w0,M.F,J++ [some x],none⟩ (J++ [some x]) w O (nx+1):=by
  refine⟨zu,by simp[H.len],⟨fun i h hi=>⟨(H.own.1 i h hi).1.mono hpre,fun k f=>(H.own.1 i h hi).2 k (H.stands hpre hi (fun _ _=>rfl) f)⟩,
   fun i j h h' k hi hj hne f f'=>H.own.2 i j h h' k hi hj hne (H.stands hpre hi (fun _ _=>rfl) f) (H.stands hpre hj (fun _ _=>rfl) f')⟩,H.fr,fun b h hb=>?_⟩
  have old:ez M.C b=some h->vT (J++ [some x]) M.w0 false b h/\∀k,vY (J++ [some x]) M.w0 b h k->k<M.w0.heap.size/\¬M.F k:=fun hb=>
   ⟨(H.wm b h hb).1.mono (H.pre.trans hpre),fun k f=>(H.wm b h hb).2 k (hold hb k f)⟩
  cases b with
  |uH g=>exact old hb
  |loc j=>
   simp only[ez,qv,bA]at hb;cases hi:Nat.beq j nx with
   |false=>rw[hi]at hb;exact old hb
   |true=>
    rw[hi]at hb;injection hb with hb;subst hb;have hi:=Zr hi;subst hi;refine⟨h2,fun k f=>?_⟩;obtain⟨y,hy,f⟩:=f;rw[show(J++ [some x]).get (.loc j)=some (some x)from hnew]at hy;injection hy with hy;injection hy with hy;subst hy;rcases f with rfl|f
    rw[hx];exact hlt;exact f.elim
 have j8:vV (J++ [some x]) [.sl (.loc nx) 0 es n none] [v]:=by
  simp only[vV,Den];refine⟨v,[],rfl, .inr ⟨x,o',hnew,?_,?_,zo _,fun _=>?_⟩,rfl⟩;rw[hv,hx];simp;rw[hx];simp;omega;rw[hx];simp;exact hof (.inl (by omega))
 refine((hc (J++ [some x])).out (J++ [some x]) w [v] H1 j8).mono fun v' w' ⟨r,O',vW,η',h3,h4,h5,h6⟩=>?_;exact⟨r,O',vW,η',hpre.trans h3,⟨(H.pre.trans hpre).trans h3,h4.len,h4.own,h4.fr,H.wm⟩,h5,h6⟩
end
section
variable {M:Mx}{K:Env}{w:World}{O:vX}{nx:Nat}
theorem vR.tZ(H:vR M K w O nx){i es:Nat}{D D':List (List DC)}{R':List (List SV)}{w':World}{x:wZ}{aJ:Nat->Nat}
 (hi:u5 i O=some (.deep false es D)) (hf:qW w w' fun _=>False) (hx:w.heap.size<=x.g) (hN:vT (K++ [some x]) w' true (.loc nx) (.rows es R')) (hl:D'.length=R'.length)
 (hrow:∀(r:Nat) (row:List DC),D'[r]?=some row->D[aJ r]?=some row) (hinj:∀r r',r<D'.length->r'<D'.length->aJ r=aJ r'->r=r')
 (hv:∀(r c:Nat) (row:List DC) (sv:SV),D'[r]?=some row->row[c]?=some (.v sv)->∃rw:List SV,R'[r]?=some rw/\rw[c]?=some sv)
 (hk:∀(r c:Nat) (row:List DC) (es':Nat) (rows:List (List SV)),D'[r]?=some row->row[c]?=some (.uA es' rows)->∃(rw:List SV) (v:Value) (e:wZ) (o:Obj),R'[r]?=some rw/\rw[c]?=some (.val v)/\K.get (.loc i)=some (some e)/\w.heap[e.g]?=some o/\ZI o es (aJ r) c=some v)
 (hlen:∀(r:Nat) (row:List DC) (rw:List SV),D'[r]?=some row->R'[r]?=some rw->rw.length=row.length):
 vR M (K++ [some x]) w' ((nx, .deep false es D')::uU i O) (nx+1):=by
 have H2:vR M K w' O nx:=H.cV hf;have hpre:K<+:K++ [some x]:=zz _ _
 have hnew:(K++ [some x]).get (.loc nx)=some (some x):=by
  show(K++ [some x])[nx]?=_
  rw[zw (by rw[H.len];omega),H.len];simp
 obtain⟨u9,hF⟩:=H.own.1 i _ hi;obtain⟨_,hD,_⟩:=u9.wJ;have nC:=(H2.own.1 i _ hi).1;have hsize:M.w0.heap.size<=w.heap.size:=H.fr.size
 have wY:∀(r c:Nat) (es':Nat) (rows:List (List SV)),Ye D' r c=some (es',rows)->∃(rw:List SV) (v:Value) (e:wZ) (o:Obj),R'[r]?=some rw/\rw[c]?=some (.val v)/\K.get (.loc i)=some (some e)/\w.heap[e.g]?=some o/\ZI o es (aJ r) c=some v/\Ye D (aJ r) c=some (es',rows)/\uV K w v es' rows:=fun r c es' rows h=>by
  obtain⟨row,h1,h2⟩:=uk.1 h;obtain⟨j9,v,e,o,k1,k2,k3,k4,k5⟩:=hk r c row es' rows h1 h2;have h3:Ye D (aJ r) c=some (es',rows):=uk.2 ⟨row,hrow r row h1,h2⟩;obtain⟨v',k6,k7,_⟩:=((hD e k3).2 o k4).sat (aJ r) c es' rows h3;rw[k5]at k6;injection k6 with k6;subst k6
  exact⟨j9,v,e,o,k1,k2,k3,k4,k5,h3,k7⟩
 have rJ:∀{r c es' rows v k} {e:wZ} {o:Obj},K.get (.loc i)=some (some e)->w.heap[e.g]?=some o->ZI o es (aJ r) c=some v->Ye D (aJ r) c=some (es',rows)->v.ownBlock=some k->vY K w (.loc i) (.deep false es D) k:=fun{r c es' rows v k e o} h1 h2 h3 h4 h5=>⟨e,h1, .inr (by simp only[uA];exact⟨o,aJ r,c,_,v,h2,h4,h3,h5⟩)⟩;simp only[vT]at hN;rcases hN with⟨h1,_⟩|⟨x',arr,T,fz,h1,h2,h3,h4⟩
 rw[hnew]at h1;cases h1;rw[hnew]at h1;injection h1 with h1;injection h1 with h1;subst h1
 obtain⟨h5,h6,h7,h8⟩:=h3 trivial
 have hcell:∀{r c:Nat} {j9:List SV} {v:Value},R'[r]?=some j9->j9[c]?=some (.val v)->ZI (.cells arr T fz) es r c=some v:=fun{r c j9 v} k1 k2=>by
  obtain⟨_,k3⟩:=h4 r j9 k1;obtain⟨u,k4,_,k5⟩:=k3 c _ k2;simp only[Den]at k5;rw[h8,zx]at k4;simp only[ZI];rw[k4,k5.1]
 have Gh:vT (K++ [some x]) w' true (.loc nx) (.deep false es D'):=by
  refine vT.qM (mp:=false) ?_ (fun h=>by cases h) fun e he=>?_
  .refine .inr ⟨x,arr,T,fz,hnew,h2,fun _=>⟨h5,h6,by rw[show(Zy D').length=R'.length by simp[Zy,hl]];exact h7,h8⟩,fun r row hr=>?_⟩;rw[Y9]at hr;obtain⟨i6,k1,rfl⟩:=zC.1 hr;have hrl:r<R'.length:=by rw[<-hl];exact(ze.1 k1).1
   obtain⟨k3,k4⟩:=h4 r _ (z1 hrl);refine⟨by rw[zy,<-k3];exact(hlen r i6 _ k1 (z1 hrl)).symm,fun c sv hc=>?_⟩;rw[z6]at hc;obtain⟨d,k5,rfl⟩:=zC.1 hc;cases d with
   |v s=>
    obtain⟨j9,k6,k7⟩:=hv r c i6 s k1 k5;rw[z1 hrl]at k6;injection k6 with k6;subst k6
    exact k4 c s k7
   |uA es' rows=>
    obtain⟨j9,v,_,_,k6,k7,_⟩:=hk r c i6 es' rows k1 k5;rw[z1 hrl]at k6;injection k6 with k6;subst k6
    obtain⟨u,q1,q2,_⟩:=k4 c _ k7;exact⟨u,q1,q2,by simp only[ZS,Den]⟩
  .rw[hnew]at he;injection he with he;injection he with he;subst he
   refine⟨h8,fun o ho=>?_⟩;rw[h2]at ho;injection ho with ho;subst ho
   refine⟨fun r c es' rows gJ=>?_,fun r c r' c' y y' v v' k q1 q2 q3 q4 q5 q6=>?_⟩
   .obtain⟨j9,v,e,o,k1,k2,k3,k4,k5,k6,k7⟩:=wY r c es' rows gJ;have hlt:∀k,v.ownBlock=some k->k<w.heap.size:=fun k hkk=>u9.uy (rJ k3 k4 k5 k6 hkk);refine⟨v,hcell k1 k2,(k7.keep fun k hkk=>hf.block k (hlt k hkk) (fun h=>h)).mono hpre,fun hkk=>?_⟩;have:=hlt _ hkk;omega
   .obtain⟨ya,yb⟩:=y;obtain⟨za,zb⟩:=y';obtain⟨j9,v1,e,o,k1,k2,k3,k4,k5,k6,k7⟩:=wY r c ya yb q1;obtain⟨rw2,v2,e2,o2,j1,j2,j3,j4,j5,j6,j7⟩:=wY r' c' za zb q2;rw[hcell k1 k2]at q3;injection q3 with q3;subst q3
    rw[hcell j1 j2]at q4;injection q4 with q4;subst q4
    rw[k3]at j3;injection j3 with j3;injection j3 with j3;subst j3
    rw[k4]at j4;injection j4 with j4;subst j4
    obtain⟨s1,s2⟩:=((hD e k3).2 o k4).ne (aJ r) c (aJ r') c' _ _ _ _ k k6 j6 k5 j5 q5 q6;obtain⟨ra,t1,_⟩:=uk.1 q1;obtain⟨rb,t2,_⟩:=uk.1 q2;exact⟨hinj r r' (ze.1 t1).1 (ze.1 t2).1 s1,s2⟩
 have hfn:∀k,vY (K++ [some x]) w' (.loc nx) (.deep false es D') k->k=x.g\/vY K w (.loc i) (.deep false es D) k:=fun k f=>by
  rcases f.of hnew with rfl|f
  exact .inl rfl
  .simp only[uA]at f;obtain⟨o,r,c,y,v,f1,f2,f3,f4⟩:=f;rw[h2]at f1;injection f1 with f1;subst f1
   obtain⟨ya,yb⟩:=y;obtain⟨j9,v1,e,o,k1,k2,k3,k4,k5,k6,k7⟩:=wY r c ya yb f2;rw[hcell k1 k2]at f3;injection f3 with f3;subst f3
   exact .inr (rJ k3 k4 k5 k6 f4)
 have hold:∀{j h k},u5 j O=some h->vY (K++ [some x]) w' (.loc j) h k->vY K w (.loc j) h k:=fun{j h k} hj f=>H.stands hpre hj (fun k f=>hf.block k ((H.own.1 j h hj).1.uy f) (fun h=>h)) f
 have hlk:∀{j h},u5 j ((nx,Hp.deep false es D')::uU i O)=some h->(j=nx/\h= .deep false es D')\/(j≠nx/\j≠i/\u5 j O=some h):=fun{j h} hj=>by
  rw[Z8]at hj;split at hj
  rename_i e;injection hj with hj;exact .inl ⟨e,hj.symm⟩
  .rename_i e;by_cases e2:j=i
   subst e2;rw[Yd]at hj;cases hj;rw[XS _ _ _ e2]at hj;exact .inr ⟨e,e2,hj⟩
 refine⟨H.pre.trans hpre,by simp[H.len],⟨fun j h hj=>?_,fun j j' h h' k hj hj' hne f f'=>?_⟩,H2.fr,H.wm⟩
 .rcases hlk hj with⟨rfl,rfl⟩|⟨_,_,hj⟩
  .refine⟨Gh,fun k f=>?_⟩;rcases hfn k f with rfl|f
   exact .inr (by omega);exact hF k f
  exact⟨(H2.own.1 j h hj).1.mono hpre,fun k f=>(H.own.1 j h hj).2 k (hold hj f)⟩
 .rcases hlk hj with⟨e1,e2⟩|⟨n1,n2,g1⟩<;>rcases hlk hj' with⟨e3,e4⟩|⟨n3,n4,g2⟩
  exact hne (e1.trans e3.symm)
  .subst e1 e2;have f':=hold g2 f';rcases hfn k f with rfl|f
   have:=(H.own.1 _ _ g2).1.uy f';omega;exact H.own.2 i j' _ _ k hi g2 (yY n4) f f'
  .subst e3 e4;have f:=hold g1 f;rcases hfn k f' with rfl|f'
   have:=(H.own.1 _ _ g1).1.uy f;omega;exact H.own.2 j i _ _ k g1 hi n2 f f'
  exact H.own.2 j j' _ _ k g1 g2 hne (hold g1 f) (hold g2 f')
end
theorem Rz{J:Env}{w:World}{v:Value}{es:Nat}{rows:List (List SV)}(h:uV J w v es rows)(hp:Zj rows=true):∃en,uL w v es rows en/\∀y,en=some y->v.ownBlock=some y.g:=by
 rcases h with⟨rfl,rfl⟩|⟨g,cap,arr,T,fz,rfl,k2,k3,k4,k5,k6⟩
 .refine⟨none,⟨(fun x h=>by cases h),fun η' i hi=>⟨?_,?_⟩⟩,fun y h=>by cases h⟩;simp only[Den];exact .inl ⟨hi,trivial,rfl⟩;simp only[vT];exact .inl ⟨hi,trivial⟩
 .refine⟨some ⟨g,0,cap⟩,⟨fun x h=>?_,fun η' i hi=>⟨?_,?_⟩⟩,fun y h=>by injection h with h;subst h;rfl⟩;injection h with h;subst h;exact(zA.1 k2).1
  .simp only[Den];exact .inr ⟨⟨g,0,cap⟩,0,hi,by simp,by simpa using k5,zo _,fun _=>by simp⟩
  .simp only[vT];refine .inr ⟨⟨g,0,cap⟩,arr,T,fz,hi,k2,(fun h=>by cases h),fun r row hr=>?_⟩;obtain⟨h1,h2⟩:=k6 r row hr;exact⟨h1,h2.plain (J9 hp hr)⟩
def JL(n x:Nat)(sv:SV):List (List SV):=(List.range n).map fun y=>[if y=x then sv else .any]
section
variable {M:Mx}{O:vX}{nx:Nat}
theorem CALL.lq{f:FuncId}{args:List SV}{K:SV->vX->Nat->Prop}{es' i x:Nat}{D:List (List DC)}{rows:List (List SV)}(hb:ez M.C (.loc i)=some (.deep false 1 D))(BL:D[x]?=some [.uA es' rows])(hp:Zj rows=true)
 (hc:∀η1,CALL ⟨M.P,{M.C with S:=(.loc nx, .rows es' rows)::(.loc i, .rows 1 (JL D.length x (.sl (.loc nx) 0 es' rows.length none)))::M.C.S},M.w0,M.F,η1,none⟩ f args O (nx+1) K):CALL M f args O nx K:=by
 refine⟨fun J w vs H hd=>?_⟩;obtain⟨u9,hft⟩:=H.wm _ _ hb;have RA:=u9;simp only[vT]at u9;obtain⟨hR,hD⟩:=u9;rcases hR with⟨_,h0⟩|⟨e,arr,T,fz,he,hheap,_,hcells⟩
 .have:D=[]:=by simpa[Zy]using h0
  rw[this]at BL;simp at BL
 obtain⟨hbase,hK⟩:=hD e he;have wY:Ye D x 0=some (es',rows):=uk.2 ⟨_,BL,rfl⟩;obtain⟨v,hv,hks,_⟩:=(hK _ hheap).sat x 0 es' rows wY;obtain⟨en,hL,mu⟩:=Rz hks hp;have hpre:J<+:J++ [en]:=zz _ _;have hnew:(J++ [en])[nx]?=some en:=by rw[zw (by rw[H.len];omega),H.len,vI];rfl
 obtain⟨gb,h2⟩:=hL.2 _ _ hnew
 have hold:∀{b h},ez M.C b=some h->∀k,vY (J++ [en]) M.w0 b h k->vY M.η0 M.w0 b h k:=fun{b h} hb k f=>by
  obtain⟨y,hy,_⟩:=(H.wm b h hb).1.lt;exact f.less (H.pre.trans hpre) hy
 have mQ:(J++ [en]).get (.loc i)=some (some e):=Env.uc (H.pre.trans hpre) he
 have h3:vT (J++ [en]) M.w0 false (.loc i) (.rows 1 (JL D.length x (.sl (.loc nx) 0 es' rows.length none))):=by
  simp only[vT];refine .inr ⟨e,arr,T,fz,mQ,hheap,(fun h=>by cases h),fun r row hr=>?_⟩;unfold JL at hr;rw[z6]at hr;obtain⟨y,h4,rfl⟩:=zC.1 hr;obtain⟨h5,h6⟩:=ze.1 h4;rw[yS]at h6;subst h6;rw[yE]at h5;refine⟨rfl,fun j sv hj=>?_⟩;obtain⟨k1,k2⟩:=hcells r (D[r].map ZS) (by rw[Y9,z1 h5];rfl)
  match j,hj with
  |0,hj=>
   simp only[List.getElem?_cons_zero,zi]at hj;subst hj
   match hq:D[r].map ZS,k1,k2 with
   | [s],_,k2=>
     obtain⟨u,k3,k4,_⟩:=k2 0 s rfl;refine⟨u,k3,k4,?_⟩;by_cases RB:r=x
     .subst RB;rw[zf rfl];simp only[ZI]at hv;rw[hbase,zx]at k3;rw[k3]at hv;injection hv with hv;subst hv;exact gb
     rw[z7 RB];simp only[Den]
  |j+1,hj=>simp at hj
 have H1:vR ⟨M.P,{M.C with S:=(.loc nx, .rows es' rows)::(.loc i, .rows 1 (JL D.length x (.sl (.loc nx) 0 es' rows.length none)))::M.C.S},M.w0,M.F,J++ [en],none⟩ (J++ [en]) w O (nx+1):=by
  refine⟨zu,by simp[H.len],⟨fun i h hi=>⟨(H.own.1 i h hi).1.mono hpre,fun k f=>(H.own.1 i h hi).2 k (H.stands hpre hi (fun _ _=>rfl) f)⟩,
   fun i j h h' k hi hj hne f f'=>H.own.2 i j h h' k hi hj hne (H.stands hpre hi (fun _ _=>rfl) f) (H.stands hpre hj (fun _ _=>rfl) f')⟩,H.fr,fun b h hb=>?_⟩
  have old:ez M.C b=some h->vT (J++ [en]) M.w0 false b h/\∀k,vY (J++ [en]) M.w0 b h k->k<M.w0.heap.size/\¬M.F k:=fun hb=>
   ⟨(H.wm b h hb).1.mono (H.pre.trans hpre),fun k f=>(H.wm b h hb).2 k (hold hb k f)⟩
  cases b with
  |uH g=>exact old hb
  |loc j=>
   simp only[ez,qv,bA]at hb;cases hi:Nat.beq j nx with
   |true=>
    rw[hi]at hb;injection hb with hb;subst hb;have hi:=Zr hi;subst hi;refine⟨h2,fun k f=>?_⟩;obtain⟨y,hy,f⟩:=f;rw[show(J++ [en]).get (.loc j)=some en from hnew]at hy;injection hy with hy;have ho:=mu y hy;rcases f with rfl|f
    exact hft _ ⟨e,he, .inr (by simp only[uA];exact⟨_,x,0,_,v,hheap,wY,hv,ho⟩)⟩;exact f.elim
   |false=>
    rw[hi]at hb;cases hi2:Nat.beq j i with
    |false=>rw[hi2]at hb;exact old hb
    |true=>
     rw[hi2]at hb;injection hb with hb;subst hb;have hi2:=Zr hi2;subst hi2;refine⟨h3,fun k f=>?_⟩;rcases f.of mQ with rfl|f
     exact hft _ (vY.own he);exact f.elim
 refine((hc (J++ [en])).out (J++ [en]) w vs H1 (hd.mono hpre)).mono fun v' w' ⟨r,O',vW,η',h3,h4,h5,h6⟩=>?_;exact⟨r,O',vW,η',hpre.trans h3,⟨(H.pre.trans hpre).trans h3,h4.len,h4.own,h4.fr,H.wm⟩,h5,h6⟩
end
theorem uL.BQ{w w':World}{F:Nat->Prop}{v:Value}{es:Nat}{rs:List (List SV)}{en:Option wZ}(h:uL w v es rs en)(hf:qW w w' F)(hF:∀y,en=some y->¬F y.g):uL w' v es rs en:=
 ⟨fun x hx=>yH (h.1 x hx) hf.size,fun K i hi=>⟨(h.2 K i hi).1,(h.2 K i hi).2.keep fun k f=>by
  obtain⟨e,he,f⟩:=f;rw[show K.get (.loc i)=some en from hi]at he;injection he with he;rcases f with rfl|f
  exact hf.block _ (h.1 e he) (hF _ he)
  exact f.elim⟩⟩
def Qb(K:Env)(w:World)(O:vX)(i:Nat)(k:Nat):Prop:=∃(j:Nat) (h:Hp),j≠i/\u5 j O=some h/\vY K w (.loc j) h k
section
variable {M:Mx}{K:Env}{w:World}{O:vX}{nx:Nat}
def Gl(M:Mx)(O:vX)(K:Env)(w:World)(i es:Nat)(R:List (List SV)):Mx:=⟨M.P,{M.C with S:=(.loc i, .rows es R)::M.C.S},w,Qb K w O i,K,M.px⟩
theorem vR.i7(H:vR M K w O nx){i es:Nat}{rs:List (List DC)}{R:List (List SV)}(hi:u5 i O=some (.deep false es rs))(hR:gM K w i es rs R):vR (Gl M O K w i es R) K w (uU i O) nx:=by
 have hd:∀j h,u5 j (uU i O)=some h->j≠i/\u5 j O=some h:=fun j h hj=>by
  by_cases e:j=i
  subst e;rw[Yd]at hj;cases hj;exact⟨e,by rwa [XS i O j e]at hj⟩
 refine⟨zu,H.len,⟨fun j h hj=>?_,fun j j' h h' k hj hj' hne f=>?_⟩,qW.refl _ _,fun b h hb=>?_⟩
 .obtain⟨h1,h2⟩:=hd j h hj;exact⟨(H.own.1 j h h2).1,fun k f=> .inl ⟨j,h,h1,h2,f⟩⟩
 exact H.own.2 j j' h h' k (hd j h hj).2 (hd j' h' hj').2 hne f
 have old:ez M.C b=some h->vT K w false b h/\∀k,vY K w b h k->k<w.heap.size/\¬Qb K w O i k:=fun hb=>by
  refine⟨H.shared hb,fun k f=>?_⟩;obtain⟨h1,h2⟩:=H.wm b h hb;obtain⟨x,hx,_⟩:=h1.lt
  have f2:vY M.η0 M.w0 b h k:=(f.less H.pre hx).keep fun e he=>by
   obtain⟨h3,h4⟩:=h2 e.g (vY.own he);exact H.fr.block _ h3 h4
  obtain⟨h3,h4⟩:=h2 k f2;refine⟨yH h3 H.fr.size,?_⟩;rintro⟨j,h',_,hj,f3⟩;rcases(H.own.1 j h' hj).2 k f3 with h5|h5
  exact h4 h5;omega
 cases b with
 |uH g=>exact old hb
 |loc j=>
  simp only[Gl,ez,qv,bA]at hb;cases e:Nat.beq j i with
  |false=>rw[e]at hb;exact old hb
  |true=>
   rw[e]at hb;injection hb with hb;subst hb;have:=Zr e;subst this;refine⟨hR.sat,fun k f=>⟨hR.sat.uy f,?_⟩⟩;rintro⟨j',h',hne,hj',f'⟩;obtain⟨en,he,f⟩:=f;rcases f with rfl|f
   exact H.own.2 j' j h' _ _ hj' hi hne f' ⟨en,he, .inl rfl⟩;exact f.elim
theorem vR.gE(H:vR M K w O nx){i es:Nat}{R:List (List SV)}{η':Env}{w':World}{O':vX}{n':Nat}(H':vR (Gl M O K w i es R) η' w' O' n'):vR M η' w' O' n':=by
 have go:∀k,Qb K w O i k->M.F k\/M.w0.heap.size<=k:=fun k ⟨j,h,_,hj,f⟩=>(H.own.1 j h hj).2 k f;refine⟨H.pre.trans H'.pre,H'.len,⟨fun j h hj=>⟨(H'.own.1 j h hj).1,fun k f=>?_⟩,H'.own.2⟩,H.fr.trans H'.fr go,H.wm⟩;rcases(H'.own.1 j h hj).2 k f with h1|h1
 exact go k h1;exact .inr (zO H.fr.size h1)
theorem vR.nH(H:vR M K w O nx){i es:Nat}{rs:List (List DC)}{R:List (List SV)}(hi:u5 i O=some (.deep false es rs))(hR:gM K w i es rs R){r c es':Nat}{rows:List (List SV)}{row:List DC}(h1:rs[r]?=some row)(h2:row[c]?=some (.uA es' rows))(hp:Zj rows=true):
 ∃j9 v,R[r]?=some j9/\j9[c]?=some (.val v)/\∀w',qW w w' (Qb K w O i)->∃en,uL w' v es' rows en:=by
 obtain⟨j9,v,h3,h4,h5⟩:=hR.ck r c row es' rows h1 h2;refine⟨j9,v,h3,h4,fun w' hf=>?_⟩;obtain⟨en,h6,h7⟩:=Rz h5 hp;refine⟨en,h6.BQ hf fun y hy=>?_⟩;rintro⟨j,h',hne,hj,f⟩;have hs:=hR.sat;simp only[vT]at hs;rcases hs with⟨_,hs⟩|⟨e,arr,T,fz,g2,g3,_,g5⟩
 rw[hs]at h3;simp at h3;obtain⟨_,g6⟩:=g5 r j9 h3;obtain⟨u,g7,_,g8⟩:=g6 c (.val v) h4;simp only[Den]at g8;have hb:=(((H.own.1 i _ hi).1.wJ).2.1 e g2).1;refine H.own.2 j i h' _ y.g hj hi hne f ⟨e,g2, .inr ⟨_,r,c,(es',rows),v,g3,uk.2 ⟨row,h1,h2⟩,?_,h7 y hy⟩⟩;simp only[ZI];rw[hb,zx]at g7;rw[g7,g8.1]
theorem u7.gE{fr fr':Fr}{a a':Act}(H:vR M K w O nx){i es:Nat}{R:List (List SV)}{η':Env}{w':World}{O':vX}{n':Nat}(h:u7 (Gl M O K w i es R) η' fr' O' n' a' w'):u7 M η' fr' O' n' a' w':=
 ⟨H.gE h.heap,h.size,h.fK,h.defers,h.ro,h.frame⟩
theorem vZ.rest{body:Code}{fr:Fr}{Q:Post}{i es:Nat}{rs:List (List DC)}{O1:vX}(hi:u5 i O=some (.deep false es rs))(hO:uU i O=O1)
 (h:∀(K:Env) w,K.length=nx->∀R,gM K w i es rs R->(∀(r c es':Nat) (rows:List (List SV)) (row:List DC),rs[r]?=some row->row[c]?=some (.uA es' rows)->Zj rows=true->∃j9 v,R[r]?=some j9/\j9[c]?=some (.val v)/\∀w',qW w w' (Qb K w O i)->∃en,uL w' v es' rows en)->
   vZ ⟨M.P,{M.C with S:=(.loc i, .rows es R)::M.C.S},w,Qb K w O i,K,M.px⟩ body fr O1 nx Q):vZ M body fr O nx Q:=by
 subst hO;refine⟨fun K a w hm b k cs hro=>?_⟩;have H:=hm.heap;obtain⟨R,hR⟩:=Bi (H.own.1 i _ hi).1;have hl:=h K w H.len R hR fun r c es' rows row h1 h2 h3=>H.nH hi hR h1 h2 h3;have hm2:u7 (Gl M O K w i es R) K fr (uU i O) nx a w:=⟨H.i7 hi hR,hm.size,hm.fK,hm.defers,hm.ro,hm.frame⟩;obtain⟨e,a',w',hq,ha⟩:=hl.out K a w hm2 b k cs hro;refine⟨e,a',w',?_,ha⟩;cases e with
 |normal=>obtain⟨η',fr',O',n',h1,h2⟩:=hq;exact⟨η',fr',O',n',u7.gE (a:=a) (fr:=fr) H h1,h2⟩
 |exit id=>obtain⟨η',fr',O',n',h1,h2⟩:=hq;exact⟨η',fr',O',n',u7.gE (a:=a) (fr:=fr) H h1,h2⟩
 |ret=>obtain⟨η',fr',O',n',h1,h2⟩:=hq;exact⟨η',fr',O',n',u7.gE (a:=a) (fr:=fr) H h1,h2⟩
 |panic ch=>
  obtain⟨kp,X,h1,η',O',n',v,sv,h2,h3,h4⟩:=hq;exact⟨kp,X,h1,η',O',n',v,sv,h2,u7.gE (a:=a) (fr:=fr) H h3,h4⟩
 |_=>exact hq.elim
end
end Go.Sx
namespace Go.Sx
open Go Go.Our
inductive qh:List DC->List DC->Prop
 |nil:qh [] []
 |keep {d:DC} {r r':List DC} (h:qh r r'):qh (d::r) (d::r')
 |dW {d:DC} {r r':List DC} (h:qh r r'):qh (d::r) (.v .any::r')
structure qH(rs rs':List (List DC)):Prop where
 len:rs'.length=rs.length
 row:∀(r:Nat) (row':List DC),rs'[r]?=some row'->∃row:List DC,rs[r]?=some row/\qh row row'
theorem qh.len{r r':List DC}(h:qh r r'):r'.length=r.length:=by
 induction h with
 |nil=>rfl
 |keep _ ih=>simp[ih]
 |dW _ ih=>simp[ih]
theorem qh.refl:∀r:List DC,qh r r
 | []=> .nil
 |d::r=> .keep (qh.refl r)
theorem qh.get{r r':List DC}(h:qh r r'):∀{c:Nat} {d':DC},r'[c]?=some d'->∃d,r[c]?=some d/\(d'=d\/d'= .v .any):=by
 induction h with
 |nil=>intro c d' h;simp at h
 | @keep d r r' h ih=>
   intro c d' hc;cases c with
   |zero=>simp only[List.getElem?_cons_zero,zi]at hc;exact⟨d,rfl, .inl hc.symm⟩
   |succ c=>exact ih (by simpa using hc)
 | @dW d r r' h ih=>
   intro c d' hc;cases c with
   |zero=>simp only[List.getElem?_cons_zero,zi]at hc;exact⟨d,rfl, .inr hc.symm⟩
   |succ c=>exact ih (by simpa using hc)
theorem qh.den{r r':List DC}(h:qh r r'){X:Env}:∀{vs:List Value},vV X (r.map ZS) vs->vV X (r'.map ZS) vs:=by
 induction h with
 |nil=>exact fun h=>h
 | @keep d r r' h ih=>
   intro vs hd;simp only[zG,vV]at hd⊢;obtain⟨u,us,h1,h2,h3⟩:=hd;exact⟨u,us,h1,h2,ih h3⟩
 | @dW d r r' h ih=>
   intro vs hd;simp only[zG,vV]at hd⊢;obtain⟨u,us,h1,h2,h3⟩:=hd;exact⟨u,us,h1,by simp only[ZS,Den],ih h3⟩
theorem qH.uA{rs rs':List (List DC)}(h:qH rs rs'){i j:Nat}{x:Nat×List (List SV)}(hk:Ye rs' i j=some x):Ye rs i j=some x:=by
 obtain⟨es,rows⟩:=x;obtain⟨row',h1,h2⟩:=uk.1 hk;obtain⟨row,h3,h4⟩:=h.row i row' h1;obtain⟨d,h5,h6|h6⟩:=h4.get h2;subst h6;exact uk.2 ⟨row,h3,h5⟩;cases h6
theorem qH.flat{rs rs':List (List DC)}(h:qH rs rs'){r:Nat}{row:List SV}(hr:(Zy rs')[r]?=some row):∃r1 r2,rs[r]?=some r1/\qh r1 r2/\row=r2.map ZS/\(Zy rs)[r]?=some (r1.map ZS):=by
 unfold Zy at hr⊢;rw[z6]at hr;obtain⟨r2,h1,rfl⟩:=zC.1 hr;obtain⟨r1,h2,h3⟩:=h.row r r2 h1;exact⟨r1,r2,h2,h3,rfl,by rw[z6,h2];rfl⟩
theorem qH.refl(rs:List (List DC)):qH rs rs:=⟨rfl,fun r row h=>⟨row,h,qh.refl row⟩⟩
theorem vT.dW{X:Env}{w:World}{own:Bool}{b:wq}{mp:Bool}{es:Nat}{rs rs':List (List DC)}(d:vT X w own b (.deep mp es rs))(h:qH rs rs'):vT X w own b (.deep mp es rs'):=by
 have hK:uO X w b es rs->uO X w b es rs':=fun hD e he=>by
  obtain⟨h1,h2⟩:=hD e he;exact⟨h1,fun o ho=>⟨fun i j es' rows hk=>(h2 o ho).sat i j es' rows (h.uA hk),fun i j i' j' x x' v v' k k1 k2=>(h2 o ho).ne i j i' j' x x' v v' k (h.uA k1) (h.uA k2)⟩⟩
 have hl:(Zy rs').length=(Zy rs).length:=by simp[Zy,h.len]
 cases mp
 .simp only[vT,uM]at d⊢;refine⟨?_,hK d.2⟩;rcases d.1 with⟨h1,h2⟩|⟨e,arr,T,fz,h1,h2,h3,h4⟩
  refine .inl ⟨h1,zM.1 (by rw[hl,h2];rfl)⟩
  .refine .inr ⟨e,arr,T,fz,h1,h2,(by rw[hl];exact h3),fun i row hr=>?_⟩;obtain⟨r1,r2,k1,k2,rfl,k4⟩:=h.flat hr;obtain⟨k5,k6⟩:=h4 i _ k4;refine⟨by rw[zy,k2.len,<-k5,zy],fun j sv hj=>?_⟩;rw[z6]at hj;obtain⟨d',k7,rfl⟩:=zC.1 hj;obtain⟨d0,k8,k9⟩:=k2.get k7;obtain⟨v,g1,g2,g3⟩:=k6 j (ZS d0) (by rw[z6,k8];rfl);rcases k9 with rfl|rfl
   exact⟨v,g1,g2,g3⟩;exact⟨v,g1,g2,by simp only[ZS,Den]⟩
 .simp only[vT,jK]at d⊢;obtain⟨⟨⟨e,uK,h1,h2,h3,h4,h5⟩,h6⟩,h7⟩:=d;refine⟨⟨⟨e,uK,h1,h2,h3,by rw[hl];exact h4,fun i row hr=>?_⟩,h6⟩,hK h7⟩;obtain⟨r1,r2,k1,k2,rfl,k4⟩:=h.flat hr;obtain⟨en,g1,g2,g3⟩:=h5 i _ k4;exact⟨en,g1,g2,k2.den g3⟩
theorem wV.no{J:Type}{r:Option (Nat×DC)}{A:Nat->DC->J->Prop}{B:J->Prop}{j:J}(h:r=none)(k:B j):wV r A B j:=⟨(fun a d e=>by rw[h]at e;cases e),fun _=>k⟩
section
variable {M:Mx}{X:Env}{w:World}{O O1:vX}{nx n1 n2:Nat}{fr qV fQ:Fr}{O2:vX}
theorem uT.dW(i:Nat){mp:Bool}{es:Nat}{rs rs':List (List DC)}(hi:u5 i O=some (.deep mp es rs))(hd:qH rs rs'):uT M O nx (uI i (.deep mp es rs') O) nx:=by
 refine⟨fun X w H=>⟨X,zu,H.mY hi ((H.own.1 i _ hi).1.dW hd) fun n f=>?_⟩⟩;obtain⟨e,he,f⟩:=f;rcases f with rfl|f
 exact vY.own he
 .obtain⟨o,a,b,x,v,h1,h2,h3,h4⟩:=f;exact⟨e,he, .inr ⟨o,a,b,x,v,h1,hd.uA h2,h3,h4⟩⟩
end
end Go.Sx
namespace Go.Our
open Go.Sx
section
variable {Y Z:Type}[DecidableEq Y](K:bL Y)
def YW(h:Y->Z->DC)(l:List (Y×Z)):List (List DC):=l.map fun p=>[.v (K.enc p.1),h p.1 p.2]
theorem RQ(es:Nat)(f:Z->List (List SV))(l:List (Y×Z)):YU K es f l=YW K (fun _ v=> .uA es (f v)) l:=rfl
theorem HM(h:Y->Z->DC)(a:Y):∀(l:List (Y×Z)) (i:Nat),findD K.ks (K.enc a) i (YW K h l)=(jb a l).map fun p=>(i+p.1,h a p.2)
 | [],i=>rfl
 |(k,v)::r,i=>by
  have ih:=HM h a r (i+1);simp only[YW,zG,findD,ZS,K.is,jb]at ih⊢;by_cases e:a=k
  subst e;simp
  .simp only[e,decide_false,xG,ih,Option.map_map];congr 1;funext p;simp only[Function.comp,yF,xm];omega
theorem BU(h:Y->Z->DC)(l:List (Y×Z)):JP K.ks (Zy (YW K h l)):=by
 intro r hr;unfold Zy YW at hr;rw[xo]at hr;obtain⟨p,_,rfl⟩:=yc.1 hr;exact⟨_,_,rfl,K.ok _⟩
theorem BV(h:Y->Z->DC)(d:DC){a:Y}{l:List (Y×Z)}{i:Nat}{u:Z}(hn:(l.map Prod.fst).Nodup)(hi:jb a l=some (i,u)):(YW K h l).modify i (jl d)=YW K (fun k v=>if k=a then d else h k v) l:=by
 unfold YW;have hr:=DU hi;apply yu;intro j;rw[yo,z6,z6];by_cases e:i=j
 .subst e;rw[hr];simp[jl]
 .cases hj:l[j]? with
  |none=>simp
  |some p=>
   have hp:¬p.1=a:=fun e1=>by
    obtain⟨h1,h2⟩:=ze.1 hr;obtain⟨h3,h4⟩:=ze.1 hj;have:=(x9 (h₀:=by simpa using h1) (h₁:=by simpa using h3) hn).1 (by rw[yg,yg,h2,h4,e1]);exact e this
   simp[e,hp]
theorem RR{h h':Y->Z->DC}{l:List (Y×Z)}(hd:∀k v,h' k v=h k v\/h' k v= .v .any):qH (YW K h l) (YW K h' l):=by
 refine⟨by simp[YW],fun r row' hr=>?_⟩;unfold YW at hr⊢;rw[z6]at hr;obtain⟨p,h1,rfl⟩:=zC.1 hr;refine⟨_,by rw[z6,h1];rfl, .keep ?_⟩;rcases hd p.1 p.2 with e|e
 rw[e];exact .keep .nil;rw[e];exact .dW .nil
theorem Gm{h:Y->Z->DC}(hp:∀k v,JN (h k v)=true):∀l:List (Y×Z),ZB (YW K h l)=true
 | []=>rfl
 |p::l=>by
  have:=Gm hp l;have h2:=hp p.1 p.2;unfold YW at this⊢;rw[zG,ZB,this,Yr,Yr,Yr,h2];simp[JN,K.pl]
end
end Go.Our
namespace Go.Sx
open Go
section
variable {M:Mx}{fr fr':Fr}{O O':vX}{nx n':Nat}
theorem qQ.goes{f:Operand}{ps:Array Tmp}{eo body:Code}{Q:Post}(h:vU M fr O nx fr' O' n')(k:qQ M f ps eo body fr' O' n' Q):qQ M f ps eo body fr O nx Q:=
 ⟨fun K a w hm=>let⟨η1,h1⟩:=h.out K a w hm;k.out η1 a w h1⟩
theorem uT.Gq(es:Nat):uT M O nx ((nx, .rows es [])::O) (nx+1):=by
 refine⟨fun K w H=>⟨K++ [Option.none],zz _ _,?_⟩⟩
 have hg:(K++ [Option.none]).get (.loc nx)=some Option.none:=by
  show(K++ [Option.none])[nx]?=_
  rw[zw (by rw[H.len];omega),H.len,vI];rfl
 have hf:∀k, ¬vY (K++ [Option.none]) w (.loc nx) (.rows es []) k:=fun k ⟨e,he,_⟩=>by rw[hg]at he;cases he
 refine H.push Option.none (w':=w) (fun _ _=>rfl) (zo _) rfl rfl rfl (zo _) ?_ (fun k f=>(hf k f).elim) fun k f=>(hf k f).elim;simp only[vT];exact .inl ⟨hg,trivial⟩
theorem vR.fresh{K:Env}{w:World}(H:vR M K w O nx){i es:Nat}{rs:List (List SV)}(hi:u5 i O=some (.rows es rs)):
 ∃y,(K++ [y]).get (.loc nx)=some y/\(K++ [y]).get (.loc i)=some y/\vR M (K++ [y]) w ((nx, .rows es rs)::uU i O) (nx+1):=by
 have hs:=(H.own.1 i _ hi).1;obtain⟨y,hy,_⟩:=hs.lt;have hpre:K<+:K++ [y]:=zz _ _
 have hn:(K++ [y]).get (.loc nx)=some y:=by
  show(K++ [y])[nx]?=_
  rw[zw (by rw[H.len];omega),H.len,vI];rfl
 have ho:(K++ [y]).get (.loc i)=some y:=Env.uc hpre hy
 have hd:∀j h,u5 j (uU i O)=some h->j≠i/\u5 j O=some h:=fun j h hj=>by
  by_cases e:j=i
  subst e;rw[Yd]at hj;cases hj;exact⟨e,by rwa [XS i O j e]at hj⟩
 have hft:∀k,vY (K++ [y]) w (.loc nx) (.rows es rs) k->vY K w (.loc i) (.rows es rs) k:=fun k ⟨e,he,f⟩=>by
  rw[hn]at he;injection he with he
  exact⟨e,by rw[hy,he],f⟩
 have e9:∀{j h},u5 j O=some h->∀k,vY (K++ [y]) w (.loc j) h k->vY K w (.loc j) h k:=fun hj k f=>H.stands hpre hj (fun _ _=>rfl) f;refine⟨y,hn,ho,H.pre.trans hpre,by simp[H.len],⟨fun j h hj=>?_,fun j j' h h' k hj hj' hne f f'=>?_⟩,H.fr,H.wm⟩
 .rw[Z8]at hj;split at hj
  .rename_i e;subst e;injection hj with hj;subst hj;refine⟨?_,fun k f=>(H.own.1 i _ hi).2 k (hft k f)⟩;simp only[vT]at hs⊢;rcases hs with⟨h1,h2⟩|⟨e,arr,T,fz,h1,h2,h3,h4⟩
   exact .inl ⟨by rw[hn,<-hy,h1],h2⟩;exact .inr ⟨e,arr,T,fz,by rw[hn,<-hy,h1],h2,h3,fun a row ha=>⟨(h4 a row ha).1,(h4 a row ha).2.mono hpre⟩⟩
  .obtain⟨h1,h2⟩:=hd j h hj;exact⟨(H.own.1 j h h2).1.mono hpre,fun k f=>(H.own.1 j h h2).2 k (e9 h2 k f)⟩
 .rw[Z8]at hj hj';split at hj
  .rename_i e;subst e;injection hj with hj;subst hj;rw[z7 (fun e=>hne e.symm)]at hj';obtain⟨h1,h2⟩:=hd j' h' hj';exact H.own.2 i j' _ h' k hi h2 (yY h1) (hft k f) (e9 h2 k f')
  .obtain⟨h1,h2⟩:=hd j h hj;split at hj'
   .rename_i e;subst e;injection hj' with hj';subst hj';exact H.own.2 j i h _ k h2 hi h1 (e9 h2 k f) (hft k f')
   .obtain⟨h3,h4⟩:=hd j' h' hj';exact H.own.2 j j' h h' k h2 h4 hne (e9 h2 k f) (e9 h4 k f')
theorem uT.nJ(i:Nat){es:Nat}{rs:List (List SV)}(hi:u5 i O=some (.rows es rs)):uT M O nx ((nx, .rows es rs)::uU i O) (nx+1):=
 ⟨fun K w H=>let⟨y,_,_,h⟩:=H.fresh hi;⟨_,zz _ _,h⟩⟩
theorem uT.fresh(i j:Nat){es ec n:Nat}{rs:List (List SV)}(hi:u5 i O=some (.rows es rs))(hj:u5 j O=some (.box [.sl (.loc i) 0 ec n none]))(hij:j≠i):
 uT M O nx (uI j (.box [.sl (.loc nx) 0 ec n none]) ((nx, .rows es rs)::uU i O)) (nx+1):=by
 refine⟨fun K w H=>?_⟩;obtain⟨y,h1,h2,h3⟩:=H.fresh hi;have hjn:j≠nx:=fun e=>by have:=H.lt hj;omega
 have hj2:u5 j ((nx, .rows es rs)::uU i O)=some (.box [.sl (.loc i) 0 ec n Option.none]):=by
  rw[Z8,z7 hjn,XS i O j hij];exact hj
 refine⟨_,zz _ _,h3.mY hj2 ?_ fun k f=>f⟩;have hs:=(h3.own.1 j _ hj2).1;simp only[vT]at hs⊢;obtain⟨e,arr,T,fz,a1,a2,a3,a4⟩:=hs;refine⟨e,arr,T,fz,a1,a2,a3,fun c sv hc=>?_⟩
 match c,hc with
 |0,hc=>
  simp only[List.getElem?_cons_zero,zi]at hc;subst hc;obtain⟨v,b1,b2,b3⟩:=a4 0 _ rfl;refine⟨v,b1,b2,?_⟩;simp only[Den]at b3⊢;rw[h2]at b3;rw[h1];exact b3
 |c+1,hc=>simp at hc
theorem uT.dX(i j c:Nat){es ec n:Nat}{rs:List (List SV)}{row:List SV}(hi:u5 i O=some (.rows es rs))(hj:u5 j O=some (.box row))(hc:row[c]?=some (.sl (.loc i) 0 ec n none))(hij:j≠i):
 uT M O nx (uI j (.box (row.set c (.sl (.loc nx) 0 ec n none))) ((nx, .rows es rs)::uU i O)) (nx+1):=by
 refine⟨fun K w H=>?_⟩;obtain⟨y,h1,h2,h3⟩:=H.fresh hi;have hjn:j≠nx:=fun e=>by have:=H.lt hj;omega
 have hj2:u5 j ((nx, .rows es rs)::uU i O)=some (.box row):=by
  rw[Z8,z7 hjn,XS i O j hij];exact hj
 refine⟨_,zz _ _,h3.mY hj2 ?_ fun k f=>f⟩;have hs:=(h3.own.1 j _ hj2).1;simp only[vT]at hs⊢;obtain⟨e,arr,T,fz,a1,a2,a3,a4⟩:=hs;refine⟨e,arr,T,fz,a1,a2,a3,fun d sv hd=>?_⟩;rw[xB]at hd;by_cases e1:c=d
 .subst e1;rw[zf rfl,zf (ze.1 hc).1]at hd;injection hd with hd;subst hd;obtain⟨v,b1,b2,b3⟩:=a4 c _ hc;refine⟨v,b1,b2,?_⟩;simp only[Den]at b3⊢;rw[h2]at b3;rw[h1];exact b3
 .rw[z7 e1]at hd;exact a4 d sv hd
end
end Go.Sx
