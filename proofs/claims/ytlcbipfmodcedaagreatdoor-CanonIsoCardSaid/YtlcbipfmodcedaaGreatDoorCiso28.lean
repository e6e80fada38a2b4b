/- Part 28: SortC. Conditions: as each part says. -/
import Derived.Test.YtlcbipfmodcedaaGreatDoorCiso21
import Derived.Test.YtlcbipfmodcedaaGreatDoorCiso27
set_option linter.unusedVariables false
set_option linter.unusedSimpArgs false
namespace Go.Sx
open Go Go.Sort Go.Shelf Go.Proofs Go.Our
def Yx(x:Nat):List SV:=[.int .i64 (x:Int)]
instance :bu Yx:=⟨fun _=>rfl⟩
section
variable {M:Mx}{J:Env}{w:World}{O:u0}{nx:Nat}
theorem vU.other(H:vU M J w O nx){w':World}{j:Nat}{h0:Hp}(hj:u6 j O=some h0){e:qJ}(he:J[j]?=some (some e))(wU:∀k,k<w.heap.size->k≠e.g->w'.heap[k]?=w.heap[k]?)(hsz:w.heap.size<=w'.heap.size)
 (ho:w'.os=w.os) (ht:w'.tape=w.tape) (hp:w'.output=w.output) (fB:w.drawn<=w'.drawn):vU M J w' (wh j O) nx:=by
 have fi:u5 J w (.loc j) h0 e.g:=u5.own he
 have back:∀{i h},u6 i (wh j O)=some h->i≠j/\u6 i O=some h:=fun{i h} hi=>by
  have hne:i≠j:=fun e=>by subst e;rw[Ym]at hi;cases hi
  exact⟨hne,by rw[<-Jq j O i hne];exact hi⟩
 have keep:∀{i h},u6 i (wh j O)=some h->∀k,u5 J w (.loc i) h k->w'.heap[k]?=w.heap[k]?:=fun{i h} hi k f=>
  wU k ((H.own.1 i h (back hi).2).1.uL f) fun hk=>H.own.2 i j h h0 k (back hi).2 hj (back hi).1 f (hk▸fi)
 have bk:∀{i h},u6 i (wh j O)=some h->∀k,u5 J w' (.loc i) h k->u5 J w (.loc i) h k:=fun{i h} hi k f=>H.stands zx (back hi).2 (keep hi) f
 refine⟨H.pre,H.len,⟨fun i h hi=>⟨(H.own.1 i h (back hi).2).1.keep (keep hi),fun k f=>(H.own.1 i h (back hi).2).2 k (bk hi k f)⟩,fun i i' h h' k hi hi' hne f f'=>H.own.2 i i' h h' k (back hi).2 (back hi').2 hne (bk hi k f) (bk hi' k f')⟩,
  ⟨ho.trans H.fr.os,ht.trans H.fr.tape,hp.trans H.fr.output,zK H.fr.drawn fB,zK H.fr.size hsz,fun k hk hF=>?_⟩,H.wH⟩
 rw[wU k (yI hk H.fr.size) ?_];exact H.fr.block k hk hF
 .intro hke;subst hke;rcases H.K4 hj he with h1|h1
  exact hF h1;omega
end
section
variable {Y:Type}[Inhabited Y](enc:Y->Value)
theorem U4(w:World)(blk m:Nat)(d:Array Y):(putRow enc (Sort.ahead w m) blk 0 d).heap=(mapBlock w blk (putCells enc 0 d)).heap:=by simp[putRow,mapBlock,Sort.ahead]
theorem Wt(w:World)(blk m:Nat)(d:Array Y){g:Nat}(hne:g≠blk):(putRow enc (Sort.ahead w m) blk 0 d).heap[g]?=w.heap[g]?:=by
 rw[U4];simp only[mapBlock,y7];rw[z6 (fun h=>hne h.symm)]
theorem Z7U(w:World)(blk m:Nat)(d:Array Y){c:Array Value}{T:TypeId}{fz:Nat×Nat}(h:w.heap[blk]?=some (.cells c T fz)):(putRow enc (Sort.ahead w m) blk 0 d).heap[blk]?=some (.cells (putCells enc 0 d c) T fz):=by
 rw[U4];simp only[mapBlock,y7,yH,h,Option.map_eq_map,Option.map_some,onCells]
theorem Sf(w:World)(blk m:Nat)(d:Array Y):(putRow enc (Sort.ahead w m) blk 0 d).heap.size=w.heap.size:=by rw[U4];simp[mapBlock]
end
theorem Si(w:World)(os:Array Obj):jw w (grow w os) fun _=>False:=
 ⟨rfl,rfl,rfl,zn _,by simp[grow],fun k hk _=>by simp only[grow];exact ya hk⟩
theorem ZiH{Y:Type}{c:Y->Y->Int}(h:Pre c):SWO (ltOf c) where
 irrefl x:=by unfold ltOf;have:=h.refl x;simp;omega
 trans x y z h1 h2:=by
  unfold ltOf at*;simp only[yN]at*;exact h.bG h1 (by omega)
 ntrans x y z h1 h2:=by
  unfold ltOf at*;simp only[yL]at*;have a1:=h.anti x y;have a2:=h.anti y z;have a3:=h.anti x z;have:=h.trans z y x (by omega) (by omega);omega
theorem CALL.GJ{M:Mx}{O:u0}{nx:Nat}{P:Program}{ρ:Ren}(L:SlLaysF.n6 P ρ)(ef:∀args w,(callFunc (ρ.f 6) args).run P w= .ok (.enter (ρ.f 6) args) w){g:FuncId}(eg:∀args w,(callFunc g args).run P w= .ok (.enter g args) w){f6:FuncId}(hf6:f6=ρ.f 6)(hP:M.P=P)
 {caps:List SV} {cf:Nat->Nat->Int} {l:List Nat} {n i len:Nat} {K:SV->u0->Nat->Prop} (hlen:len=l.length) (hi:u6 i O=some (.rows 1 (l.map Yx))) (hn:∀x∈l,x<n) (hl:l.length<4611686018427387904) (hc:Pre cf)
 (hq:∀x y,x<n->y<n->dI M g ([.int .i64 (x:Int), .int .i64 (y:Int)]++caps) (wh i O) nx (.int .i64 (cf x y)))
 (hK:∀l':List Nat,l'.Perm l->l'.Pairwise (fun a b=>cf a b<=0)->K (.uI []) (uO i (.rows 1 (l'.map Yx)) O) nx):CALL M f6 [.sl (.loc i) 0 1 len none, .fn (.func g) [] caps] O nx K:=by
 subst hlen hP hf6;refine⟨fun J w vs H hd=> .inl ⟨ρ.f 6,ef _ _,?_⟩⟩;simp only[vX]at hd;obtain⟨v,us,rfl,hv,f,us',rfl,hf,rfl⟩:=hd;simp only[Den]at hf;obtain⟨ff,fc,rfl,KU,sI⟩:=hf;simp only[vX]at KU;subst KU;have uc:=(H.own.1 i _ hi).1;simp only[vV]at uc;simp only[Den]at hv;by_cases l0:l=[]
 .subst l0
  have qo:vU M J w (uO i (.rows 1 []) O) nx:=by
   have aux:∀(j:Nat) (h:Hp),u6 j (uO i (.rows 1 []) O)=some h->u6 j O=some h:=fun j h hj=>by
    rw[Y5 _ _ _ _ (by rw[hi];rfl)]at hj;split at hj
    rename_i e;subst e;rw[<-hj];exact hi;exact hj
   exact{pre:=H.pre,len:=H.len,wH:=H.wH,fr:=H.fr,own:=⟨fun j h hj=>H.own.1 j h (aux j h hj),fun j k h h' m hj hk=>H.own.2 j k h h' m (aux j h hj) (aux k h' hk)⟩}
  obtain⟨p,cap,rfl⟩:∃p cap,v= .slice p 0 cap:=by
   rcases hv with⟨_,h,_⟩|⟨e,o,_,h,_⟩
   exact⟨_,_,h⟩;exact⟨_,_,h⟩
  refine(AnyF.slices_SortFunc_none {L with} p cap _ w).mono ?_;rintro e w' ⟨rfl,rfl⟩;exact⟨_,rfl, .uI [],_,nx,J,zx,qo,by simp only[Den,vX];exact⟨[],rfl,rfl⟩,hK [] (List.Perm.refl _) List.Pairwise.nil⟩
 rcases uc with⟨_,h⟩|⟨e,arr,Tt,fz,he,hheap,hown,hcells⟩
 exact(l0 (by simpa using h)).elim;obtain⟨x0,hx0⟩:=List.exists_mem_of_ne_nil l l0;have hn0:0<n:=Nat.lt_of_le_of_lt (x8 _) (hn x0 hx0);obtain⟨hun,hsz,hle,hb0⟩:=hown trivial;rw[zj]at hle
 obtain⟨hel,tF⟩:l.length<=e.cap/\v= .slice (some ⟨e.g,0,none⟩) l.length e.cap:=by
  rcases hv with⟨h,_⟩|⟨e',o,h,h2,h3,h4,h5⟩
  rw[he]at h;cases h
  .rw[he]at h;cases h;simp only[Option.getD_none,zw,Nat.sub_zero]at h2 h3;have:=h5 (.inr trivial);rw[hb0]at this;simp only[yQ,Nat.add_zero]at this;subst this;exact⟨h3,h2⟩
 subst tF;have he':J[i]?=some (some e):=he;have hblk:e.g<w.heap.size:=(zC.1 hheap).1;have hsize:l.length<=arr.size:=by rw[hsz];omega
 haveI:Inhabited (Fin n):=⟨⟨0,hn0⟩⟩;obtain⟨enc,lN⟩:∃enc:Fin n->Value,enc=fun x=> .int .i64 ((x.val:Nat):Int):=⟨_,rfl⟩;obtain⟨lF,A5⟩:∃lF:List (Fin n),lF.map (·.val)=l:=⟨l.pmap (fun x h=>⟨x,h⟩) hn,by rw[List.map_pmap];simp⟩;have mh:lF.length=l.length:=by rw[<-A5,zj]
 have hcell:∀(t:Nat) (x:Nat),l[t]?=some x->arr[t]?=some (.int .i64 (x:Int)):=by
  intro t x ht;obtain⟨h1,h2⟩:=hcells t (Yx x) (by rw[z7,ht];rfl);obtain⟨u,h3,h4,h5⟩:=h2 0 (.int .i64 (x:Int)) rfl;rw[hb0,zw,xI,Nat.add_zero]at h3;simp only[Den]at h5;rw[h3,h5]
 have hH:Holds enc w e.g 0 lF.toArray:=by
  intro t ht;rw[yc]at ht;have h4:=hcell t (lF[t]).val (by rw[<-A5,z7,z1 ht];rfl);refine⟨by rw[zw,Hf hheap,h4,lN];simp[ht],?_⟩;have:=hun t (by omega);simp only[World.frozen?,hheap,zw];simpa using this
 have hcmp:CmpLays1 M.P g ⟨fc⟩ enc (fun x y=>cf x.val y.val) e.g 0 lF.toArray.size w:=by
  intro m os dk hdk x y
  have H':vU M J (sortWorld enc w e.g 0 m dk os) (wh i O) nx:=by
   have h1:vU M J (putRow enc (Sort.ahead w m) e.g 0 dk) (wh i O) nx:=H.other hi he' (fun k _ hne=>Wt enc w e.g m dk hne) (by rw[Sf];exact zn _) rfl rfl rfl (by simp[putRow,Sort.ahead,mapBlock]);exact h1.nS (Si _ os)
  have hd':vX J ([.int .i64 ((x.val:Nat):Int), .int .i64 ((y.val:Nat):Int)]++caps) (enc x::enc y::fc):=by
   simp only[List.cons_append,List.nil_append,vX,Den];exact⟨_,_,by rw[lN],rfl,_,_,rfl,rfl,sI⟩
  rcases(hq x.val y.val x.2 y.2).out J _ _ H' hd' with⟨g',h1,h2⟩|⟨v,w',h1,_⟩
  .rw[eg]at h1;injection h1 with h1 _;injection h1 with h1 _;subst h1;refine(show #[enc x,enc y]++(⟨fc⟩:Array Value)=⟨enc x::enc y::fc⟩by simp)▸h2.mono ?_;rintro e w' ⟨v,rfl,hv,hf⟩;simp only[Den]at hv;subst hv;exact⟨rfl,hf.grown⟩
  rw[eg]at h1;cases h1
 have hpc:Pre (fun x y:Fin n=>cf x.val y.val):=⟨fun a b=>hc.anti _ _,fun a b d=>hc.trans _ _ _⟩;have hmain:=Any.slices_SortFunc L enc (fun x=>by rw[lN];rfl) (fun x y:Fin n=>cf x.val y.val) (ZiH hpc) g ⟨fc⟩ e.g 0 e.cap lF.toArray w eg hcmp hH hblk (by rw[yc,mh];exact hl);rw[yc,mh]at hmain;refine hmain.mono ?_;rintro e1 w' ⟨rfl,d',m,os,hP,hS,rfl⟩;obtain⟨p1,_,p3⟩:=hP;have p1:d'.size=l.length:=by rw[<-mh];simpa using p1
 have GK:(d'.toList.map (·.val)).Perm l:=by
  rw[<-A5];refine List.Perm.map _ ?_;have e1:d'.extract 0 l.length=d':=by rw[<-p1];simp
  have e2:lF.toArray.extract 0 l.length=lF.toArray:=by rw[<-mh];simp
  rw[e1,e2]at p3;exact p3
 have kJ:∀(t:Nat) (ht:t<l.length),d'[t]! =d'[t]'(by omega):=fun t ht=>by rw[getElem!_pos d' t (by omega)]
 have hpw:(d'.toList.map (·.val)).Pairwise fun a b=>cf a b<=0:=by
  rw[vT,yR];intro a b ha hb hab;simp only[Array.length_toList,p1]at ha hb;have:=hS a b (x8 _) hab hb;rw[kJ a ha,kJ b hb]at this;unfold ltOf at this;have h2:=hc.anti (d'[b]'(by omega)).val (d'[a]'(by omega)).val;simp only[yL]at this;simp only[Array.getElem_toList];omega
 refine⟨_,rfl, .uI [],_,nx,J,zx,?_,by simp only[Den,vX];exact⟨[],rfl,rfl⟩,hK _ GK hpw⟩;refine vU.nS (w:=putRow enc (Sort.ahead w m) e.g 0 d') ?_ (Si _ os);refine H.jK hi he' (fun k hne=>Wt enc w e.g m d' hne) (Sf ..) rfl rfl rfl ?_ (by simp[putRow,Sort.ahead,mapBlock]);simp only[vV];refine .inr ⟨e,_,Tt,fz,he,Z7U enc w e.g m d' hheap,fun _=>⟨?_,?_,?_,hb0⟩,fun t bh ht=>?_⟩;simp only[putCells,xo];exact hun;simp only[putCells,xo];exact hsz;rw[zj,zj,Array.length_toList,p1];exact hel
 .rw[z7,z7]at ht;obtain⟨x,hx,rfl⟩:=zH.1 ht;obtain⟨y,hy,rfl⟩:=zH.1 hx;refine⟨rfl,fun j sv hj=>?_⟩;have pI:t<l.length:=by have:=(zg.1 hy).1;rw[Array.length_toList,p1]at this;exact this
  match j,hj with
  |0,hj=>
   simp only[Yx,List.getElem?_cons_zero,zh]at hj;subst hj;refine⟨.int .i64 ((y.val:Nat):Int),?_,rfl,by simp only[Den]⟩;have hlt:t<arr.size:=by omega
   rw[hb0,zw,xI,Nat.add_zero];have A6:d'[t]! =y:=by rw[kJ t pI];have:=(zg.1 hy).2;rw[<-this,Array.getElem_toList]
   have GL:t<0+d'.size:=by omega
   simp only[putCells,vA,yM hlt,Option.map_some,x8,v7,zw,p1,pI,yH,Nat.sub_zero,A6,lN]
end Go.Sx
