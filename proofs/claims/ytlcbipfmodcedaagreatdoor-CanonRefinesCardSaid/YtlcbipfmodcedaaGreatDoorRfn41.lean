/- Part 41: SortI. Conditions: as each part says. -/
import Derived.Shelf.Sort.Plain
import Derived.Shelf.Slices.In.SortNone
import Derived.Test.YtlcbipfmodcedaaGreatDoorRfn8
set_option linter.unusedVariables false
set_option linter.unusedSimpArgs false
namespace Go.Sx
open Go Go.Sort Go.Shelf Go.Proofs Go.Our
abbrev encZ:Int->Value:=Value.int .i64
def Z1s(s:Int):List SV:=[.int .i64 s]
instance :PlF Z1s:=⟨fun _=>rfl⟩
theorem leZ(x y:Int):decide (x<=y)=leC cmpI x y:=by
 unfold leC cmpI;rw[Bool.eq_iff_iff];simp only[decide_eq_true_iff,Bool.not_eq_true',decide_eq_false_iff_not]
 (repeat' split)<;>omega
theorem Ux(w:World)(blk m:Nat)(d:Array Int)(os:Array Obj):(grow (putRow encZ (Sort.ahead w m) blk 0 d) os).heap=(mapBlock w blk (putCells encZ 0 d)).heap++os:=by simp[grow,putRow,mapBlock,Sort.ahead]
theorem Z6p(w:World)(blk m:Nat)(d:Array Int)(os:Array Obj):w.heap.size<=(grow (putRow encZ (Sort.ahead w m) blk 0 d) os).heap.size:=by
 rw[Ux];simp[mapBlock]
theorem Z4v(w:World)(blk m:Nat)(d:Array Int)(os:Array Obj){g:Nat}(hg:g<w.heap.size)(hne:g≠blk):(grow (putRow encZ (Sort.ahead w m) blk 0 d) os).heap[g]?=w.heap[g]?:=by
 rw[Ux,Array.getElem?_append_left (by simpa[mapBlock]using hg)];simp only[mapBlock,Array.getElem?_modify];rw[if_neg (fun h=>hne h.symm)]
theorem Z85(w:World)(blk m:Nat)(d:Array Int)(os:Array Obj){c:Array Value}{T:TypeId}{fz:Nat×Nat}(h:w.heap[blk]?=some (.cells c T fz)):(grow (putRow encZ (Sort.ahead w m) blk 0 d) os).heap[blk]?=some (.cells (putCells encZ 0 d c) T fz):=by
 have hlt:=(Array.getElem?_eq_some_iff.1 h).1;rw[Ux,Array.getElem?_append_left (by simpa[mapBlock]using hlt)];simp only[mapBlock,Array.getElem?_modify,if_true,h,Option.map_eq_map,Option.map_some,onCells]
theorem Z86{P:Program}{T:Tab}{ρ:Ren}(L:Lays.n189 P ρ)(ef:∀args w,(callFunc (ρ.f 189) args).run P w= .ok (.enter (ρ.f 189) args) w)(l:List Int)(hl:l.length<4611686018427387904):
 Does P T (ρ.f 189) 1 [.sl (.loc 0) 0 1 l.length none] [(0, .rows 1 (l.map Z1s))] [] (fun r O nx=>r= .tup []/\O=[(0, .rows 1 ((l.mergeSort (leC cmpI)).map Z1s))]/\nx=1):=by
 refine⟨fun M vs hP hT' hF hS H hd=> .inl ⟨ρ.f 189,by rw[hP];exact ef _ _,?_⟩⟩;obtain⟨P',⟨T',N',S',ro'⟩,w0,F,η0,px'⟩:=M;simp only at hP hT' hF hS H hd⊢;subst hP hT';simp only[DenL]at hd;obtain⟨v,us,rfl,hv,rfl⟩:=hd;have hsat:=(H.own.1 0 _ rfl).1;simp only[HpSat,Env.get]at hsat;simp only[Den,Env.get]at hv
 have fin:∀w' (O':Hps),FrW w0 w' F->HpSat η0 w' true (.loc 0) (.rows 1 ((l.mergeSort (leC cmpI)).map Z1s))->
  ∃r O' nx' η',(r=SV.tup []/\O'=[(0,Hp.rows 1 ((l.mergeSort (leC cmpI)).map Z1s))]/\nx'=1)/\η0<+:η'/\HeapOK ⟨P',⟨T',N',S',ro'⟩,w0,F,η0,px'⟩ η' w' O' nx'/\Den η' r (.tuple #[]):=by
  intro w' O' hfr hs;refine⟨_,_,_,η0,⟨rfl,rfl,rfl⟩,List.prefix_rfl,⟨H.pre,H.len,⟨fun i h hi=>?_,fun i j h h' k hi hj hij f f'=>?_⟩,hfr,H.sok⟩,?_⟩
  ·rw[Z6]at hi;split at hi
   ·rename_i e;subst e;injection hi with hi;subst hi;refine⟨hs,fun n f=>(H.own.1 0 _ rfl).2 n ?_⟩;obtain⟨e,h1,h2⟩:=f;exact⟨e,h1,h2⟩
   ·simp[lkp]at hi
  ·rw[Z6]at hi hj;split at hi
   ·rename_i e;subst e;split at hj
    ·rename_i e2;exact(hij e2.symm).elim
    ·simp[lkp]at hj
   ·simp[lkp]at hi
  ·simp only[Den,DenL];exact⟨[],rfl,rfl⟩
 rcases hsat with⟨hn,hnil⟩|⟨e,arr,Tt,fz,he,hheap,hown,hcells⟩
 ·have hl0:l=[]:=by simpa using hnil
  subst hl0
  have hv2:v= .slice none 0 0:=by
   rcases hv with⟨_,h,_⟩|⟨e,o,h,_⟩
   ·exact h
   ·rw[hn]at h;cases h
  subst hv2;refine(Any.slices_Sort_int_none L none 0 w0).mono ?_;rintro e w' ⟨rfl,rfl⟩;refine⟨_,rfl,fin _ [] (FrW.refl _ _) ?_⟩;simp only[HpSat,Env.get];exact .inl ⟨hn,by simp⟩
 ·obtain⟨hun,hsz,hle,hb0⟩:=hown trivial
  obtain⟨hel,hvv⟩:l.length<=e.cap/\v= .slice (some ⟨e.g,0,none⟩) l.length e.cap:=by
   rcases hv with⟨h,_⟩|⟨e',o,h,h2,h3,h4,h5⟩
   ·rw[he]at h;cases h
   ·rw[he]at h;cases h;simp only[Option.getD_none,Nat.zero_add,Nat.sub_zero]at h2 h3;have:=h5 (.inr trivial);rw[hb0]at this;simp only[Nat.zero_mul,Nat.add_zero]at this;subst this;exact⟨h3,h2⟩
  subst hvv;have hblk:e.g<w0.heap.size:=(Array.getElem?_eq_some_iff.1 hheap).1;have hsize:l.length<=arr.size:=by rw[hsz];omega
  have hcell:∀(i:Nat) (x:Int),l[i]?=some x->arr[i]?=some (encZ x):=by
   intro i x hi;obtain⟨h1,h2⟩:=hcells i (Z1s x) (by rw[List.getElem?_map,hi];rfl);obtain⟨u,h3,h4,h5⟩:=h2 0 (.int .i64 x) rfl;rw[hb0,Nat.zero_add,Nat.mul_one,Nat.add_zero]at h3;simp only[Den]at h5;rw[h3,h5];try rfl
  have hH:Holds encZ w0 e.g 0 l.toArray:=by
   intro t ht;rw[List.size_toArray]at ht;have h4:=hcell t l[t] (List.getElem?_eq_getElem ht);refine⟨by rw[Nat.zero_add,Z5O hheap,h4];simp[ht],?_⟩;have:=hun t (by omega);simp only[World.frozen?,hheap,Nat.zero_add];simpa using this
  have hFg:F e.g:=by
   rcases(H.own.1 0 _ rfl).2 e.g ⟨e,he, .inl rfl⟩with h|h
   ·exact h
   ·have h:w0.heap.size<=e.g:=h;omega
  have hmain:=Any.slices_Sort_int L e.g 0 e.cap l w0 hH hblk hl;rw[show(fun x y:Int=>decide (x<=y))=leC cmpI from funext fun x=>funext fun y=>leZ x y]at hmain;refine hmain.mono ?_;rintro e1 w' ⟨rfl,n,os,rfl⟩;refine⟨_,rfl,fin _ [] ?_ ?_⟩
  ·refine⟨rfl,rfl,rfl,?_,Z6p ..,fun b hb hnF=>Z4v w0 e.g n _ os hb (fun e=>hnF (e▸hFg))⟩;simp[grow,putRow,mapBlock,Sort.ahead]
  ·simp only[HpSat,Env.get];have hsl:(l.mergeSort (leC cmpI)).length=l.length:=List.length_mergeSort l;refine .inr ⟨e,_,Tt,fz,he,Z85 w0 e.g n _ os hheap,fun _=>⟨?_,?_,?_,hb0⟩,fun i rw1 hi=>?_⟩
   ·simp only[putCells,Array.size_mapIdx];exact hun
   ·simp only[putCells,Array.size_mapIdx];exact hsz
   ·rw[List.length_map,hsl];exact hel
   ·rw[List.getElem?_map]at hi;obtain⟨x,hx,rfl⟩:=Option.map_eq_some_iff.1 hi;refine⟨rfl,fun j sv hj=>?_⟩;have hil:=(List.getElem?_eq_some_iff.1 hx).1
    match j,hj with
    |0,hj=>
     injection hj with hj;subst hj;refine⟨encZ x,?_,rfl,by simp only[Den];try rfl⟩;have hlt:i<arr.size:=by omega
     rw[hb0,Nat.zero_add,Nat.mul_one,Nat.add_zero];have hxe:=(List.getElem?_eq_some_iff.1 hx).2;have hil':i<l.length:=by omega
     simp only[putCells,Array.getElem?_mapIdx,Array.getElem?_eq_getElem hlt,Option.map_some,Nat.zero_le,true_and,Nat.zero_add,List.size_toArray,hsl,hil',if_true,Nat.sub_zero];rw[Array.getElem!_eq_getD,Array.getD_eq_getD_getElem?];simp[hx]
end Go.Sx
