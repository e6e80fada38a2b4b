/- Part 33: SortI. Conditions: as each part says. -/
import Derived.Shelf.Sort.Plain
import Derived.Shelf.Slices.In.SortNone
import Derived.Test.YtlcbipfmodcedaaGreatDoorCiso7
set_option linter.unusedVariables false
set_option linter.unusedSimpArgs false
namespace Go.Sx
open Go Go.Sort Go.Shelf Go.Proofs Go.Our
abbrev cB:Int->Value:=Value.int .i64
def Qz(s:Int):List SV:=[.int .i64 s]
instance :bu Qz:=⟨fun _=>rfl⟩
theorem leZ(x y:Int):decide (x<=y)=wW wP x y:=by
 unfold wW wP;rw[yh];simp only[yt,vr,yL]
 (repeat' split)<;>omega
theorem U5(w:World)(blk m:Nat)(d:Array Int)(os:Array Obj):(grow (putRow cB (Sort.ahead w m) blk 0 d) os).heap=(mapBlock w blk (putCells cB 0 d)).heap++os:=by simp[grow,putRow,mapBlock,Sort.ahead]
theorem Z6q(w:World)(blk m:Nat)(d:Array Int)(os:Array Obj):w.heap.size<=(grow (putRow cB (Sort.ahead w m) blk 0 d) os).heap.size:=by
 rw[U5];simp[mapBlock]
theorem Z4q(w:World)(blk m:Nat)(d:Array Int)(os:Array Obj){g:Nat}(hg:g<w.heap.size)(hne:g≠blk):(grow (putRow cB (Sort.ahead w m) blk 0 d) os).heap[g]?=w.heap[g]?:=by
 rw[U5,ya (by simpa[mapBlock]using hg)];simp only[mapBlock,y7];rw[z6 (fun h=>hne h.symm)]
theorem Z7X(w:World)(blk m:Nat)(d:Array Int)(os:Array Obj){c:Array Value}{T:TypeId}{fz:Nat×Nat}(h:w.heap[blk]?=some (.cells c T fz)):(grow (putRow cB (Sort.ahead w m) blk 0 d) os).heap[blk]?=some (.cells (putCells cB 0 d c) T fz):=by
 have hlt:=(zC.1 h).1;rw[U5,ya (by simpa[mapBlock]using hlt)];simp only[mapBlock,y7,yH,h,Option.map_eq_map,Option.map_some,onCells]
theorem Z7Y{P:Program}{T:qg}{ρ:Ren}(L:Lays.n189 P ρ)(ef:∀args w,(callFunc (ρ.f 189) args).run P w= .ok (.enter (ρ.f 189) args) w)(l:List Int)(hl:l.length<4611686018427387904):
 vW P T (ρ.f 189) 1 [.sl (.loc 0) 0 1 l.length none] [(0, .rows 1 (l.map Qz))] [] (fun r O nx=>r= .uI []/\O=[(0, .rows 1 ((l.mergeSort (wW wP)).map Qz))]/\nx=1):=by
 refine⟨fun M vs hP dw hF hS H hd=> .inl ⟨ρ.f 189,by rw[hP];exact ef _ _,?_⟩⟩;obtain⟨P',⟨T',N',S',aO⟩,w0,F,η0,od⟩:=M;simp only at hP dw hF hS H hd⊢;subst hP dw;simp only[vX]at hd;obtain⟨v,us,rfl,hv,rfl⟩:=hd;have uc:=(H.own.1 0 _ rfl).1;simp only[vV,Env.get]at uc;simp only[Den,Env.get]at hv
 have fin:∀w' (O':u0),jw w0 w' F->vV η0 w' true (.loc 0) (.rows 1 ((l.mergeSort (wW wP)).map Qz))->
  ∃r O' vZ η',(r=SV.uI []/\O'=[(0,Hp.rows 1 ((l.mergeSort (wW wP)).map Qz))]/\vZ=1)/\η0<+:η'/\vU ⟨P',⟨T',N',S',aO⟩,w0,F,η0,od⟩ η' w' O' vZ/\Den η' r (.tuple #[]):=by
  intro w' O' hfr hs;refine⟨_,_,_,η0,⟨rfl,rfl,rfl⟩,zx,⟨H.pre,H.len,⟨fun i h hi=>?_,fun i j h h' k hi hj hij f f'=>?_⟩,hfr,H.wH⟩,?_⟩
  .rw[Z6]at hi;split at hi
   .rename_i e;subst e;injection hi with hi;subst hi;refine⟨hs,fun n f=>(H.own.1 0 _ rfl).2 n ?_⟩;obtain⟨e,h1,h2⟩:=f;exact⟨e,h1,h2⟩
   simp[u6]at hi
  .rw[Z6]at hi hj;split at hi
   .rename_i e;subst e;split at hj
    rename_i e2;exact(hij e2.symm).elim;simp[u6]at hj
   simp[u6]at hi
  simp only[Den,vX];exact⟨[],rfl,rfl⟩
 rcases uc with⟨hn,hnil⟩|⟨e,arr,Tt,fz,he,hheap,hown,hcells⟩
 .have hl0:l=[]:=by simpa using hnil
  subst hl0
  have KV:v= .slice none 0 0:=by
   rcases hv with⟨_,h,_⟩|⟨e,o,h,_⟩
   exact h;rw[hn]at h;cases h
  subst KV;refine(Any.slices_Sort_int_none L none 0 w0).mono ?_;rintro e w' ⟨rfl,rfl⟩;refine⟨_,rfl,fin _ [] (jw.refl _ _) ?_⟩;simp only[vV,Env.get];exact .inl ⟨hn,by simp⟩
 .obtain⟨hun,hsz,hle,hb0⟩:=hown trivial
  obtain⟨hel,tF⟩:l.length<=e.cap/\v= .slice (some ⟨e.g,0,none⟩) l.length e.cap:=by
   rcases hv with⟨h,_⟩|⟨e',o,h,h2,h3,h4,h5⟩
   rw[he]at h;cases h
   .rw[he]at h;cases h;simp only[Option.getD_none,zw,Nat.sub_zero]at h2 h3;have:=h5 (.inr trivial);rw[hb0]at this;simp only[yQ,Nat.add_zero]at this;subst this;exact⟨h3,h2⟩
  subst tF;have hblk:e.g<w0.heap.size:=(zC.1 hheap).1;have hsize:l.length<=arr.size:=by rw[hsz];omega
  have hcell:∀(i:Nat) (x:Int),l[i]?=some x->arr[i]?=some (cB x):=by
   intro i x hi;obtain⟨h1,h2⟩:=hcells i (Qz x) (by rw[z7,hi];rfl);obtain⟨u,h3,h4,h5⟩:=h2 0 (.int .i64 x) rfl;rw[hb0,zw,xI,Nat.add_zero]at h3;simp only[Den]at h5;rw[h3,h5];try rfl
  have hH:Holds cB w0 e.g 0 l.toArray:=by
   intro t ht;rw[yc]at ht;have h4:=hcell t l[t] (z1 ht);refine⟨by rw[zw,Hf hheap,h4];simp[ht],?_⟩;have:=hun t (by omega);simp only[World.frozen?,hheap,zw];simpa using this
  have hFg:F e.g:=by
   rcases(H.own.1 0 _ rfl).2 e.g ⟨e,he, .inl rfl⟩with h|h
   exact h
   .have h:w0.heap.size<=e.g:=h;omega
  have hmain:=Any.slices_Sort_int L e.g 0 e.cap l w0 hH hblk hl;rw[show(fun x y:Int=>decide (x<=y))=wW wP from funext fun x=>funext fun y=>leZ x y]at hmain;refine hmain.mono ?_;rintro e1 w' ⟨rfl,n,os,rfl⟩;refine⟨_,rfl,fin _ [] ?_ ?_⟩
  .refine⟨rfl,rfl,rfl,?_,Z6q ..,fun b hb KW=>Z4q w0 e.g n _ os hb (fun e=>KW (e▸hFg))⟩;simp[grow,putRow,mapBlock,Sort.ahead]
  .simp only[vV,Env.get];have fZ:(l.mergeSort (wW wP)).length=l.length:=yE l;refine .inr ⟨e,_,Tt,fz,he,Z7X w0 e.g n _ os hheap,fun _=>⟨?_,?_,?_,hb0⟩,fun i bh hi=>?_⟩;simp only[putCells,xo];exact hun;simp only[putCells,xo];exact hsz;rw[zj,fZ];exact hel
   .rw[z7]at hi;obtain⟨x,hx,rfl⟩:=zH.1 hi;refine⟨rfl,fun j sv hj=>?_⟩;have hil:=(zg.1 hx).1
    match j,hj with
    |0,hj=>
     injection hj with hj;subst hj;refine⟨cB x,?_,rfl,by simp only[Den];try rfl⟩;have hlt:i<arr.size:=by omega
     rw[hb0,zw,xI,Nat.add_zero];have mm:=(zg.1 hx).2;have tM:i<l.length:=by omega
     simp only[putCells,vA,yM hlt,Option.map_some,x8,v7,zw,yc,fZ,tM,yH,Nat.sub_zero];rw[Array.getElem!_eq_getD,y5];simp[hx]
end Go.Sx
