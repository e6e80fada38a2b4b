/- Part 39: SortI. Conditions: as each part says. -/
import Derived.Shelf.Sort.Plain
import Derived.Shelf.Slices.In.SortNone
import Derived.Test.YtlcbipfmodcedaaGreatDoorFrm7
set_option linter.unusedVariables false
set_option linter.unusedSimpArgs false
namespace Go.Sx
open Go Go.Sort Go.Shelf Go.Proofs Go.Our
abbrev dV:Int->Value:=Value.int .i64
def Qa(s:Int):List SV:=[.int .i64 s]
instance :dZ Qa:=⟨fun _=>rfl⟩
theorem leZ(x y:Int):decide (x<=y)=q9 uY x y:=by
 unfold q9 uY;rw[zX];simp only[yx,Bool.not_eq_true',yl]
 (repeat' split)<;>omega
theorem Uz(w:World)(blk m:Nat)(d:Array Int)(os:Array Obj):(grow (putRow dV (Sort.ahead w m) blk 0 d) os).heap=(mapBlock w blk (putCells dV 0 d)).heap++os:=by simp[grow,putRow,mapBlock,Sort.ahead]
theorem Z70(w:World)(blk m:Nat)(d:Array Int)(os:Array Obj):w.heap.size<=(grow (putRow dV (Sort.ahead w m) blk 0 d) os).heap.size:=by
 rw[Uz];simp[mapBlock]
theorem Z4Y(w:World)(blk m:Nat)(d:Array Int)(os:Array Obj){g:Nat}(hg:g<w.heap.size)(hne:g≠blk):(grow (putRow dV (Sort.ahead w m) blk 0 d) os).heap[g]?=w.heap[g]?:=by
 rw[Uz,y9 (by simpa[mapBlock]using hg)];simp only[mapBlock,yh];rw[z7 (fun h=>hne h.symm)]
theorem Z8L(w:World)(blk m:Nat)(d:Array Int)(os:Array Obj){c:Array Value}{T:TypeId}{fz:Nat×Nat}(h:w.heap[blk]?=some (.cells c T fz)):(grow (putRow dV (Sort.ahead w m) blk 0 d) os).heap[blk]?=some (.cells (putCells dV 0 d c) T fz):=by
 have hlt:=(zA.1 h).1;rw[Uz,y9 (by simpa[mapBlock]using hlt)];simp only[mapBlock,yh,yJ,h,Option.map_eq_map,Option.map_some,onCells]
theorem Z8M{P:Program}{T:wU}{ρ:Ren}(L:Lays.n189 P ρ)(ef:∀args w,(callFunc (ρ.f 189) args).run P w= .ok (.enter (ρ.f 189) args) w)(l:List Int)(hl:l.length<4611686018427387904):
 vS P T (ρ.f 189) 1 [.sl (.loc 0) 0 1 l.length none] [(0, .rows 1 (l.map Qa))] [] (fun r O nx=>r= .uz []/\O=[(0, .rows 1 ((l.mergeSort (q9 uY)).map Qa))]/\nx=1):=by
 refine⟨fun M vs hP cD hF hS H hd=> .inl ⟨ρ.f 189,by rw[hP];exact ef _ _,?_⟩⟩;obtain⟨P',⟨T',N',S',pK⟩,w0,F,η0,nT⟩:=M;simp only at hP cD hF hS H hd⊢;subst hP cD;simp only[vV]at hd;obtain⟨v,us,rfl,hv,rfl⟩:=hd;have u9:=(H.own.1 0 _ rfl).1;simp only[vT,Env.get]at u9;simp only[Den,Env.get]at hv
 have fin:∀w' (O':vX),qW w0 w' F->vT η0 w' true (.loc 0) (.rows 1 ((l.mergeSort (q9 uY)).map Qa))->
  ∃r O' vW η',(r=SV.uz []/\O'=[(0,Hp.rows 1 ((l.mergeSort (q9 uY)).map Qa))]/\vW=1)/\η0<+:η'/\vR ⟨P',⟨T',N',S',pK⟩,w0,F,η0,nT⟩ η' w' O' vW/\Den η' r (.tuple #[]):=by
  intro w' O' hfr hs;refine⟨_,_,_,η0,⟨rfl,rfl,rfl⟩,zu,⟨H.pre,H.len,⟨fun i h hi=>?_,fun i j h h' k hi hj hij f f'=>?_⟩,hfr,H.wm⟩,?_⟩
  .rw[Z8]at hi;split at hi
   .rename_i e;subst e;injection hi with hi;subst hi;refine⟨hs,fun n f=>(H.own.1 0 _ rfl).2 n ?_⟩;obtain⟨e,h1,h2⟩:=f;exact⟨e,h1,h2⟩
   simp[u5]at hi
  .rw[Z8]at hi hj;split at hi
   .rename_i e;subst e;split at hj
    rename_i e2;exact(hij e2.symm).elim;simp[u5]at hj
   simp[u5]at hi
  simp only[Den,vV];exact⟨[],rfl,rfl⟩
 rcases u9 with⟨hn,hnil⟩|⟨e,arr,Tt,fz,he,hheap,hown,hcells⟩
 .have hl0:l=[]:=by simpa using hnil
  subst hl0
  have Kx:v= .slice none 0 0:=by
   rcases hv with⟨_,h,_⟩|⟨e,o,h,_⟩
   exact h;rw[hn]at h;cases h
  subst Kx;refine(Any.slices_Sort_int_none L none 0 w0).mono ?_;rintro e w' ⟨rfl,rfl⟩;refine⟨_,rfl,fin _ [] (qW.refl _ _) ?_⟩;simp only[vT,Env.get];exact .inl ⟨hn,by simp⟩
 .obtain⟨hun,hsz,hle,hb0⟩:=hown trivial
  obtain⟨hel,th⟩:l.length<=e.cap/\v= .slice (some ⟨e.g,0,none⟩) l.length e.cap:=by
   rcases hv with⟨h,_⟩|⟨e',o,h,h2,h3,h4,h5⟩
   rw[he]at h;cases h
   .rw[he]at h;cases h;simp only[Option.getD_none,zx,Nat.sub_zero]at h2 h3;have:=h5 (.inr trivial);rw[hb0]at this;simp only[yO,Nat.add_zero]at this;subst this;exact⟨h3,h2⟩
  subst th;have hblk:e.g<w0.heap.size:=(zA.1 hheap).1;have hsize:l.length<=arr.size:=by rw[hsz];omega
  have hcell:∀(i:Nat) (x:Int),l[i]?=some x->arr[i]?=some (dV x):=by
   intro i x hi;obtain⟨h1,h2⟩:=hcells i (Qa x) (by rw[z6,hi];rfl);obtain⟨u,h3,h4,h5⟩:=h2 0 (.int .i64 x) rfl;rw[hb0,zx,xL,Nat.add_zero]at h3;simp only[Den]at h5;rw[h3,h5];try rfl
  have hH:Holds dV w0 e.g 0 l.toArray:=by
   intro t ht;rw[ye]at ht;have h4:=hcell t l[t] (z1 ht);refine⟨by rw[zx,FK hheap,h4];simp[ht],?_⟩;have:=hun t (by omega);simp only[World.frozen?,hheap,zx];simpa using this
  have hFg:F e.g:=by
   rcases(H.own.1 0 _ rfl).2 e.g ⟨e,he, .inl rfl⟩with h|h
   exact h
   .have h:w0.heap.size<=e.g:=h;omega
  have hmain:=Any.slices_Sort_int L e.g 0 e.cap l w0 hH hblk hl;rw[show(fun x y:Int=>decide (x<=y))=q9 uY from funext fun x=>funext fun y=>leZ x y]at hmain;refine hmain.mono ?_;rintro e1 w' ⟨rfl,n,os,rfl⟩;refine⟨_,rfl,fin _ [] ?_ ?_⟩
  .refine⟨rfl,rfl,rfl,?_,Z70 ..,fun b hb Ky=>Z4Y w0 e.g n _ os hb (fun e=>Ky (e▸hFg))⟩;simp[grow,putRow,mapBlock,Sort.ahead]
  .simp only[vT,Env.get];have kL:(l.mergeSort (q9 uY)).length=l.length:=yt l;refine .inr ⟨e,_,Tt,fz,he,Z8L w0 e.g n _ os hheap,fun _=>⟨?_,?_,?_,hb0⟩,fun i j9 hi=>?_⟩;simp only[putCells,xu];exact hun;simp only[putCells,xu];exact hsz;rw[zy,kL];exact hel
   .rw[z6]at hi;obtain⟨x,hx,rfl⟩:=zC.1 hi;refine⟨rfl,fun j sv hj=>?_⟩;have hil:=(ze.1 hx).1
    match j,hj with
    |0,hj=>
     injection hj with hj;subst hj;refine⟨dV x,?_,rfl,by simp only[Den];try rfl⟩;have hlt:i<arr.size:=by omega
     rw[hb0,zx,xL,Nat.add_zero];have iF:=(ze.1 hx).2;have tB:i<l.length:=by omega
     simp only[putCells,vm,yL hlt,Option.map_some,ve,xI,zx,ye,kL,tB,yJ,Nat.sub_zero];rw[Array.getElem!_eq_getD,zZ];simp[hx]
end Go.Sx
