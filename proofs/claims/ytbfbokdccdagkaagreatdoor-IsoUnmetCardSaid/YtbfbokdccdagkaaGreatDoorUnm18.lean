/- Part 18: Build, Build2, GrowA, GrowB. Conditions: as each part says. -/
import Derived.Test.YtbfbokdccdagkaaGreatDoorProg
import Derived.WalkKit
import Derived.Lib.FrozenHead
import Derived.Lib.Builder
import Derived.Lib.UnsafeStr
import Derived.Shelf.RegionOpenPlain
import Derived.Lib.MakeNoZero
import Derived.Laws.IdiomCopy
import Derived.Test.YtbfbokdccdagkaaGreatDoorUnm9
set_option linter.unusedVariables false
set_option linter.unusedSimpArgs false
set_option maxRecDepth 100000
namespace Go.Proofs.YtbfbokdccdagkaaGreatDoor
open Go.Sx Go.RowKit
open Tryz
abbrev TB:TypeId:=176
abbrev TU:TypeId:=5
theorem Zfk(b:Nat)(w:World)(h0:w.cell? ⟨b,0,none⟩=some (.pointer (some ⟨b,0,none⟩))):
 Calls prog 155 #[.pointer (some ⟨b,0,none⟩)] w fun e w'=>e= .returned (.tuple #[])/\w'=w:=by
 obtain⟨j,hj,_⟩:=Option.map_eq_some_iff.1 (show(prog.info? TB).map (·.size)=some 2 by kernel_rfl)
 go_enter func155,ntmps155
 go_wp2
 rw[Lib.run_neq_ptr_same w _ underlying173 hj]
 go_wp2
 go_end0
 exact⟨rfl,rfl⟩
theorem Zdu(b:Nat)(w:World)(h0:w.cell? ⟨b,0,none⟩=some (.pointer none))(hsh:w.shape? b=some (TB,2))(hfz:w.frozen? ⟨b,0,none⟩=false):
 Calls prog 155 #[.pointer (some ⟨b,0,none⟩)] w fun e w'=>e= .returned (.tuple #[])/\w'=w.setCell ⟨b,0,none⟩ (.pointer (some ⟨b,0,none⟩)):=by
 obtain⟨j,hj,hjs⟩:=Option.map_eq_some_iff.1 (show(prog.info? TB).map (·.size)=some 2 by kernel_rfl)
 go_enter func155,ntmps155
 go_wp2
 rw[Lib.run_to_unsafe w ⟨b,0,none⟩ underlying173 underlying227 hj (by rw[hjs];decide) hsh (Nat.zero_lt_succ 1)];simp only[Result.andThen];rw[Oper.upon_value]
 go_wp2
 rw[run_callFunc_extern func178 (by kernel_rfl) (by kernel_rfl) (by kernel_rfl) (e:=Extern.AbiNoEscape.same) (by kernel_rfl)];rw[Lib.run_noEscape];simp only[Result.andThen];rw[Oper.upon_value]
 go_wp2
 rw[Lib.run_from_unsafe w ⟨b,0,none⟩ underlying227 underlying173 hj hsh (by kernel_rfl)];simp only[Result.andThen];rw[Oper.upon_value]
 go_wp2
 go_end0
 exact⟨rfl,rfl⟩
structure Stays(b:Nat)(w w':World):Prop where
 os:w'.os=w.os
 tape:w'.tape=w.tape
 output:w'.output=w.output
 drawn:w.drawn<=w'.drawn
 size:w.heap.size<=w'.heap.size
 block:∀k,k<w.heap.size->k≠b->¬kid w b (.bld TB TU []) k->w'.heap[k]?=w.heap[k]?
 kids:∀k,kid w' b (.bld TB TU []) k->kid w b (.bld TB TU []) k\/w.heap.size<=k
theorem Zeq(b:Nat)(bs:List Value)(w:World)(h:Lib.IsBuilderF TB TU 0 b bs w):
 Calls prog 155 #[.pointer (some ⟨b,0,none⟩)] w fun e w'=>e= .returned (.tuple #[])/\Lib.BuilderAtF TB TU 0 b (.pointer (some ⟨b,0,none⟩)) bs w'/\(w'=w\/w'=w.setCell ⟨b,0,none⟩ (.pointer (some ⟨b,0,none⟩))):=by
 rcases h with h|h
 ·refine(Zdu b w h.cell0 h.shape h.frozen0).mono ?_;rintro e w' ⟨rfl,rfl⟩;exact⟨rfl,h.used _, .inr rfl⟩
 ·refine(Zfk b w h.cell0).mono ?_;rintro e w' ⟨rfl,rfl⟩;exact⟨rfl,h, .inl rfl⟩
section
variable {P:Program}
theorem Z9q(w:World)(t u ty e:TypeId)(i:TypeInfo)(ht:P.underlying t=some (.slice e))(hu:P.underlying u=some .string)(hi:P.info? e=some i)(hz:i.zero=some (.int .u8 0))(hsize:i.size=1)(hby:i.bytes=1)
 (v:Value) (n:Nat) (xs:List Value) (hown:w.ownsRowF 0 e 1 v n xs) (s:ByteArray) (h63:n+s.size<=140737488355328):
 ∃v' w',(Builtin.append_ #[t,u] ty #[v, .string s]).run P w= .ok v' w'/\w'.ownsRowF 0 e 1 v' (n+s.size) (xs++Lib.strCells s)/\w.grownBy w' v.ownBlock/\w.drawn<=w'.drawn/\∀k,v'.ownBlock=some k->v.ownBlock=some k\/w.heap.size<=k:=by
 have hm:n+s.size<=maxLen:=by unfold maxLen;omega
 obtain⟨v',w',hr,h1,h2,_⟩:=Lib.run_append_own_stringF (P:=P) w 0 t u ty e i ht hu hi hz hsize hby v n xs hown s hm h63 (Nat.zero_le _);refine⟨v',w',hr,h1,h2,?_⟩;rcases hown.2 with⟨rfl,rfl⟩|⟨g,cap,cur,fz,rfl,hbg,hg,hfz,hnc,hcm,hcs,htake⟩
 ·by_cases hs:s.size=0
  ·have hf:=Lib.run_firstCells_string (P:=P) w 1 s;rw[hs]at hf
   have:(Builtin.append_ #[t,u] ty #[.slice none 0 0, .string s]).run P w= .ok (.slice none 0 0) w:=by
    simp[Builtin.append_,run_underlying ht,run_underlying hu,sizeOf,typeInfo,hi,hsize,Builtin.lenOf,hs,hf]
   rw[this]at hr;injection hr with hv hr;rw[<-hr,<-hv];exact⟨Nat.le_refl _,fun k hk=> .inl hk⟩
  ·rw[run_append_nil_string (P:=P) w t u ty e i (.int .u8 0) ht hu hi hz s (by omega) (by omega) (by rw[hby];omega)]at hr;injection hr with hv hr;rw[<-hr,<-hv];refine⟨Nat.le_succ _,fun k hk=> .inr ?_⟩;simp only[Value.ownBlock,Option.some.injEq]at hk;omega
 ·by_cases hroom:n+s.size<=cap
  ·rw[Lib.run_append_room_stringF (P:=P) w t u ty e i ht hu hi hsize g n cap cur fz hg (by simpa using hfz) s hroom (by omega)]at hr;injection hr with hv hr;rw[<-hr,<-hv];exact⟨Nat.le_refl _,fun k hk=> .inl hk⟩
  ·have hxl:xs.length=n:=by simpa using hown.1
   have holds:∀j u,xs[j]?=some u->w.cell? ((⟨g,0,none⟩:Addr).add j)=some u:=hown.cells (g:=g) rfl;rw[Lib.run_append_grow_string (P:=P) w t u ty e i (.int .u8 0) ht hu hi hz ⟨g,0,none⟩ n cap xs (by rw[hsize];simpa using hxl) holds s (by omega) (by omega) (by rw[hby];exact growslice_fits (by omega) (by omega))]at hr;injection hr with hv hr;rw[<-hr,<-hv];refine⟨Nat.le_succ _,fun k hk=> .inr ?_⟩;simp only[Value.ownBlock,Option.some.injEq]at hk;omega
theorem Z0f{ops:Array Oper}{rest:List Oper}{o:Oper}{a:Act}{w:World}{Q:Exit->Act->World->Prop}(hgd:o.guard=none)(sl x:Operand)(t u:TypeId)
 (ho:o.op= .call {callee:= .builtin .append,args:= #[sl,x],argTypes:= #[t,u]})
 (e:TypeId) (i:TypeInfo) (ht:P.underlying t=some (.slice e)) (hu:P.underlying u=some .string) (hi:P.info? e=some i) (hz:i.zero=some (.int .u8 0)) (hsize:i.size=1) (hby:i.bytes=1)
 (v:Value) (n:Nat) (xs:List Value) (hs:a.eval sl=v) (hown:w.ownsRowF 0 e 1 v n xs) (s:ByteArray) (hx:a.eval x= .string s) (h63:n+s.size<=140737488355328)
 (h:∀v' w',w'.ownsRowF 0 e 1 v' (n+s.size) (xs++Lib.strCells s)->w.grownBy w' v.ownBlock->w.drawn<=w'.drawn->(∀k,v'.ownBlock=some k->v.ownBlock=some k\/w.heap.size<=k)->wpList P ops Q rest (a.put o.dst v') w'):wpList P ops Q (o::rest) a w:=by
 refine wpList_plain hgd fun K hK=>?_;obtain⟨v',w',hr,h2,h3,h4,h5⟩:=Z9q (P:=P) w t u o.type e i ht hu hi hz hsize hby v n xs hown s h63;unfold Oper.wp execOp;simp only[ho,resolve,invoke,builtin,Sem.run_bind,Sem.run_pure,Result.andThen_ok,List.map_toArray,List.map_cons,List.map_nil,hs,hx,hr];exact hK _ _ (h v' w' h2 h3 h4 h5)
end
set_option maxHeartbeats 1000000 in
theorem Zgz(b:Nat)(bs:List Value)(s:ByteArray)(w:World)(h:Lib.IsBuilderF TB TU 0 b bs w)(hlen:bs.length+s.size<=140737488355328):
 Calls prog 126 #[.pointer (some ⟨b,0,none⟩), .string s] w fun e w'=>e= .returned (.tuple #[.int .i64 s.size, .nilIface])/\Lib.BuilderAtF TB TU 0 b (.pointer (some ⟨b,0,none⟩)) (bs++Lib.strCells s) w'/\Stays b w w':=by
 obtain⟨i0,hi,hz0,hz1,hz2⟩:=info_parts (show(prog.info? TU).map (fun i=>(i.zero,i.size,i.bytes))=some (some (.int .u8 0),1,1)by kernel_rfl)
 go_enter func126,ntmps126
 go_wp2_with (go_at_call 155;refine(Zeq b bs _ h).mono ?_)
 rintro e w1 ⟨rfl,h1,hw1⟩;obtain⟨hB,v,hbk,hown,hne⟩:=h1;have c0:w1.cell? ⟨b,0,none⟩=some (.pointer (some ⟨b,0,none⟩)):=by rw[Lib.cell_of_heap hbk];rfl
 have c1:w1.cell? ⟨b,1,none⟩=some v:=by rw[Lib.cell_of_heap hbk];rfl
 go_wp2_with (at_builtin;refine Z0f rfl _ _ 174 9 rfl TU i0 underlying174 underlying9 hi hz0 hz1 hz2 _ _ _ rfl hown s rfl ?c3 ?_)
 case c3=>exact hlen
 intro v' w2 hown' hgrow hdr hnew;have hlt:b<w1.heap.size:=(Array.getElem?_eq_some_iff.1 hbk).1
 have hb2:w2.heap[b]?=some (.cells #[.pointer (some ⟨b,0,none⟩),v] TB (0,0)):=by
  rw[hgrow.block b hlt (fun e=>hne e.symm)];exact hbk
 have d0:w2.cell? ⟨b,0,none⟩=some (.pointer (some ⟨b,0,none⟩)):=by rw[Lib.cell_of_heap hb2];rfl
 have d1:w2.cell? ⟨b,1,none⟩=some v:=by rw[Lib.cell_of_heap hb2];rfl
 have f1:w2.frozen? ⟨b,1,none⟩=false:=Lib.frozen_of_heap hb2 1
 obtain⟨ao,n',cap,rfl⟩:∃ao n' cap,v'= .slice ao n' cap:=by
  rcases hown'.2 with⟨hv,_⟩|⟨g,cap,cur,fz,hv,_⟩
  ·exact⟨_,_,_,hv⟩
  ·exact⟨_,_,_,hv⟩
 have other:∀k,k≠b->w1.heap[k]?=w.heap[k]?:=by
  intro k hk;rcases hw1 with rfl|rfl
  ·rfl
  ·exact Below.heap_setCell _ _ _ _ (fun e=>hk (by simp[e]))
 have hsz1:w1.heap.size=w.heap.size:=by rcases hw1 with rfl|rfl<;>simp[World.setCell]
 have hkid:∀k,v.ownBlock=some k->kid w b (.bld TB TU []) k:=by
  intro k hk;simp only[kid];rcases hw1 with rfl|rfl
  ·exact⟨_,_,_,v,hbk,rfl,hk⟩
  ·simp only[World.setCell,Array.getElem?_modify,if_pos,Option.map_eq_some_iff]at hbk;obtain⟨o,ho,hoc⟩:=hbk;cases o with
   |cells arr T fz=>
    simp only[Obj.cells.injEq]at hoc;obtain⟨h1,h2,h3⟩:=hoc;refine⟨arr,T,fz,v,ho,?_,hk⟩;have:=congrArg (fun a=>a[1]?) h1;simpa using this
   |_=>cases hoc
 go_wp2
 go_ret2
 refine⟨rfl,?_,?_⟩
 ·exact Lib.BuilderAtF.put (T:=TB) (e:=TU) hB hb2 (bs':=bs++Lib.strCells s) (by simpa[Lib.strCells_length]using hown') (by decide)
 ·have w1os:w1.os=w.os/\w1.tape=w.tape/\w1.output=w.output/\w1.drawn=w.drawn:=by rcases hw1 with rfl|rfl<;>exact⟨rfl,rfl,rfl,rfl⟩
  refine⟨hgrow.os.trans w1os.1,hgrow.tape.trans w1os.2.1,hgrow.output.trans w1os.2.2.1,by have h1:=w1os.2.2.2;show w.drawn<=w2.drawn;omega,?_,fun k hk hkb hkk=>?_,fun k hk=>?_⟩
  ·have:=hgrow.size;simp only[World.setCell,Array.size_modify];omega
  ·have e1:(w2.setCell ⟨b,1,none⟩ (.slice ao n' cap)).heap[k]?=w2.heap[k]?:=Below.heap_setCell _ _ _ _ (fun e=>hkb (by simp[e]));rw[e1,hgrow.block k (by omega) (fun e=>hkk (hkid k e.symm)),other k hkb]
  ·have hA:=Lib.BuilderAtF.put (T:=TB) (e:=TU) hB hb2 (bs':=bs++Lib.strCells s) (v':= .slice ao n' cap) (by simpa[Lib.strCells_length]using hown') (by decide)
   have e2:(w2.setCell ⟨b,1,none⟩ (.slice ao n' cap)).heap[b]?=some (.cells #[.pointer (some ⟨b,0,none⟩), .slice ao n' cap] TB (0,0)):=by
    simp[World.setCell,Array.getElem?_modify,hb2]
   simp only[kid]at hk;obtain⟨arr,T,fz,u,k1,k2,k3⟩:=hk;rw[e2]at k1;injection k1 with k1;injection k1 with k1;subst k1;simp at k2;subst k2;rcases hnew k k3 with h1|h1
   ·exact .inl (hkid k h1)
   ·exact .inr (by omega)
theorem Z4Q{f:FuncId}{rest:List SV}{l l':List UInt8}{r:SV}(hcall:∀args w,(callFunc f args).run prog w= .ok (.enter f args) w)
 (h:∀(η:Env) (b:Nat) (vs:List Value) (w:World),DenL η rest vs->Lib.IsBuilderF TB TU 0 b (Lib.byteCells l) w->
   Calls prog f ⟨.pointer (some ⟨b,0,none⟩)::vs⟩ w fun e w'=> ∃v,e= .returned v/\Den η r v/\Lib.IsBuilderF TB TU 0 b (Lib.byteCells l') w'/\Stays b w w'):
 Does prog tab f 1 (.ptr (.loc 0) 0 0 0::rest) [(0, .bld TB TU l)] [] fun r' O nx=>r'=r/\O=[(0, .bld TB TU l')]/\nx=1:=by
 refine⟨fun M vs hP hT hF hS H hd=> .inl ⟨f,by rw[hP];exact hcall _ _,?_⟩⟩;obtain⟨hsat,hfeet⟩:=H.own.1 0 _ rfl;simp only[HpSat]at hsat;obtain⟨e,he,hb,hB⟩:=hsat;simp only[DenL]at hd;obtain⟨u,us,rfl,hu,hus⟩:=hd;simp only[Den]at hu;obtain⟨e',he',rfl⟩:=hu;rw[he]at he';injection he' with he';injection he' with he';subst he'
 rw[hP,hb];refine(h M.η0 e.g us M.w0 hus hB).mono fun en w'=>?_;rintro⟨v,rfl,hv,hB',hst⟩;refine⟨v,rfl,r,_,1,M.η0,⟨rfl,rfl,rfl⟩,List.prefix_rfl,⟨List.prefix_rfl,H.len,⟨?_,?_⟩,⟨hst.os,hst.tape,hst.output,hst.drawn,hst.size,?_⟩,H.sok⟩,hv⟩
 ·intro i g hi;rw[Z8]at hi;split at hi
  ·rename_i ei;subst ei;injection hi with hi;subst hi
   refine⟨⟨e,he,hb,hB'⟩,fun k f=>?_⟩;rcases f.of he with rfl|f
   ·exact hfeet _ (feet.own he)
   ·rcases hst.kids k f with f|f
    ·exact hfeet k ⟨e,he, .inr f⟩
    ·exact .inr f
  ·simp[lkp]at hi
 ·intro i j g g' k hi hj hij;rw[Z8]at hi hj;split at hi
  ·split at hj
   ·rename_i e1 e2;exact(hij (e1.trans e2.symm)).elim
   ·simp[lkp]at hj
  ·simp[lkp]at hi
 ·intro k hk hFk;refine hst.block k hk (fun hkb=>hFk ?_) fun f=>hFk ?_
  ·rw[hF];exact⟨0,_,rfl,hkb▸feet.own he⟩
  ·rw[hF];exact⟨0,_,rfl,e,he, .inr f⟩
theorem Z2(l s:List UInt8)(hlen:l.length+s.length<=140737488355328):
 Does prog tab 126 1 [.ptr (.loc 0) 0 0 0, .str s] [(0, .bld TB TU l)] [] fun r O nx=>r= .tup [.int .i64 s.length, .val .nilIface]/\O=[(0, .bld TB TU (l++s))]/\nx=1:=by
 refine Z4Q call126 fun η b vs w hd hB=>?_;simp only[DenL,Den]at hd;obtain⟨u,us,rfl,rfl,rfl⟩:=hd;refine(Zgz b _ ⟨s.toArray⟩ w hB (by rw[Lib.byteCells_length];exact hlen)).mono fun e w'=>?_;rintro⟨rfl,h1,h2⟩;refine⟨_,rfl,?_, .inr ?_,h2⟩
 ·simp only[Den,DenL];exact⟨_,rfl,_,_,rfl,rfl,_,_,rfl,⟨rfl,rfl⟩,rfl⟩
 ·have:Lib.byteCells (l++s)=Lib.byteCells l++Lib.strCells ⟨s.toArray⟩:=by simp[Lib.byteCells,Lib.strCells]
  rw[this];exact h1
end Go.Proofs.YtbfbokdccdagkaaGreatDoor
namespace Go.Proofs.YtbfbokdccdagkaaGreatDoor
open Go.Sx Go.RowKit
open Tryz
theorem Stays.of{b:Nat}{w w':World}(os:w'.os=w.os)(tape:w'.tape=w.tape)(output:w'.output=w.output)(drawn:w.drawn<=w'.drawn)(size:w.heap.size<=w'.heap.size)(hb:w'.heap[b]?=w.heap[b]?)
 (block:∀k,k<w.heap.size->k≠b->¬kid w b (.bld TB TU []) k->w'.heap[k]?=w.heap[k]?):Stays b w w':=⟨os,tape,output,drawn,size,block,fun k f=> .inl (f.keep hb)⟩
theorem Z0g(b:Nat)(w:World):Stays b w w.drew:= .of rfl rfl rfl (Nat.le_succ _) (Nat.le_refl _) rfl fun _ _ _ _=>rfl
set_option maxHeartbeats 2000000 in
theorem Zfl(b:Nat)(l:List UInt8)(w:World)(h:Lib.IsBuilderF TB TU 0 b (Lib.byteCells l) w)(h0:l≠ []):
 Calls prog 127 #[.pointer (some ⟨b,0,none⟩)] w fun e w'=>e= .returned (.string ⟨l.toArray⟩)/\Lib.IsBuilderF TB TU 0 b (Lib.byteCells l) w'/\Stays b w w':=by
 obtain⟨p,hp,hB,v,hbk,hown,hne⟩:∃p,(p= .pointer none\/p= .pointer (some ⟨b,0,none⟩))/\Lib.BuilderAtF TB TU 0 b p (Lib.byteCells l) w:=by
  rcases h with h|h
  ·exact⟨_, .inl rfl,h⟩
  ·exact⟨_, .inr rfl,h⟩
 have hl0:l.length≠0:=by simpa using h0
 have hA:Lib.BuilderAtF TB TU 0 b p (Lib.byteCells l) w:=⟨hB,v,hbk,hown,hne⟩;rw[Lib.byteCells_length]at hown;rcases hown.2 with⟨_,hz⟩|⟨g,cap,cur,fz,rfl,hbg,hg,hfz,hnc,hcm,hcs,htake⟩
 ·exact absurd hz hl0
 have c1:w.drew.cell? ⟨b,1,none⟩=some (.slice (some ⟨g,0,none⟩) l.length cap):=by
  have:w.drew.heap[b]?=some (.cells #[p, .slice (some ⟨g,0,none⟩) l.length cap] TB (0,0)):=hbk;rw[Lib.cell_of_heap this];rfl
 have hSD:(Builtin.unsafeSliceData_ #[174] 209 #[.slice (some ⟨g,0,none⟩) l.length cap]).run prog w.drew= .ok (.pointer (some ⟨g,0,none⟩)) w.drew:=
  Lib.run_unsafeSliceData_row _ _ _ _ _ _ (by omega)
 have hUS:(Builtin.unsafeString_ #[209,3] 9 #[.pointer (some ⟨g,0,none⟩), .int .i64 l.length]).run prog w.drew= .ok (.string ⟨l.toArray⟩) (w.drew.freeze ⟨g,0,none⟩ l.length):=by
  refine Lib.run_unsafeString_row w.drew 209 3 9 TU underlying209 (by kernel_rfl) g cur.size (by have hg':w.drew.heap[g]?=some (.cells cur TU fz):=hg;simp[World.shape?,hg']) l h0 (by omega) (by unfold maxLen at hcm;omega) ?_;intro j x hx;exact hown.cells (g:=g) rfl j (.int .u8 x.toNat) (by simp[Lib.byteCells,hx])
 have hF:=(hA.drew).froze (g:=g) (cap:=cap) (by rw[Lib.byteCells_length];exact c1);rw[Lib.byteCells_length]at hF
 have hkeep:Lib.IsBuilderF TB TU 0 b (Lib.byteCells l) (w.drew.freeze ⟨g,0,none⟩ l.length):=by
  rcases hp with rfl|rfl
  ·exact .inl hF
  ·exact .inr hF
 have hgb:g≠b:=fun e=>hne (by simp[Value.ownBlock,e]);obtain⟨fn,hfr⟩:∃fn,w.drew.freeze ⟨g,0,none⟩ l.length={w.drew with heap:=w.drew.heap.modify g fn}:=⟨_,by unfold World.freeze;rw[if_neg hl0]⟩
 have hfre:∀k,k≠g->(w.drew.freeze ⟨g,0,none⟩ l.length).heap[k]?=w.heap[k]?:=by
  intro k hk;rw[hfr];show(w.heap.modify g fn)[k]?=w.heap[k]?
  rw[Array.getElem?_modify,if_neg (Ne.symm hk)]
 have hst:Stays b w (w.drew.freeze ⟨g,0,none⟩ l.length):=by
  refine .of (by rw[hfr];rfl) (by rw[hfr];rfl) (by rw[hfr];rfl) (by rw[hfr];exact Nat.le_succ _) ?_ (hfre b (Ne.symm hgb)) fun k hk hkb hkk=>hfre k fun e=>hkk ?_
  ·rw[hfr];show w.heap.size<=(w.heap.modify g fn).size
   rw[Array.size_modify];exact Nat.le_refl _
  ·subst e;simp only[kid];exact⟨_,_,_,_,hbk,rfl,rfl⟩
 clear hA hF hp hne hB hfr hfre;have mixed:prog.follows .mixedOrders=true:=by kernel_rfl
 go_enter func127,ntmps127
 go_wp2
 go_region_o
 all_goals (go_wp2;go_ret;exact⟨rfl,hkeep,hst⟩)
theorem Z7o(W:World)(q:Option Addr):(Builtin.unsafeString_ #[209,3] 9 #[.pointer q, .int .i64 0]).run prog W= .ok (.string .empty) W:=Lib.run_unsafeString_none W _ _ _ q
set_option maxHeartbeats 2000000 in
theorem ZgA(b:Nat)(p:Value)(w:World)(hbk:w.heap[b]?=some (.cells #[p, .slice none 0 0] TB (0,0)))(hA:Lib.BuilderAtF TB TU 0 b p [] w):
 Calls prog 127 #[.pointer (some ⟨b,0,none⟩)] w fun e w'=>e= .returned (.string ⟨#[]⟩)/\Lib.BuilderAtF TB TU 0 b p [] w'/\Stays b w w':=by
 have hUS:=Z7o
 have c1:w.drew.cell? ⟨b,1,none⟩=some (.slice none 0 0):=by
  have:w.drew.heap[b]?=some (.cells #[p, .slice none 0 0] TB (0,0)):=hbk;rw[Lib.cell_of_heap this];rfl
 have hSD:(Builtin.unsafeSliceData_ #[174] 209 #[.slice none 0 0]).run prog w.drew= .ok (.pointer none) w.drew:=rfl;have hA':=hA.drew;have hst:=Z0g b w;have mixed:prog.follows .mixedOrders=true:=by kernel_rfl
 go_enter func127,ntmps127
 go_wp2
 go_region_o
 all_goals (go_wp2;go_ret;exact⟨rfl,hA',hst⟩)
set_option maxHeartbeats 2000000 in
theorem Zbz(b g:Nat)(p:Value)(cur:Array Value)(w:World)(hbk:w.heap[b]?=some (.cells #[p, .slice (some ⟨g,0,none⟩) 0 0] TB (0,0)))(fz:Nat×Nat)(hg:w.heap[g]?=some (.cells cur TU fz))(hA:Lib.BuilderAtF TB TU 0 b p [] w):
 Calls prog 127 #[.pointer (some ⟨b,0,none⟩)] w fun e w'=>e= .returned (.string ⟨#[]⟩)/\Lib.BuilderAtF TB TU 0 b p [] w'/\Stays b w w':=by
 have hUS:=Z7o;have hlt:b<w.heap.size:=(Array.getElem?_eq_some_iff.1 hbk).1
 have c1:w.drew.cell? ⟨b,1,none⟩=some (.slice (some ⟨g,0,none⟩) 0 0):=by
  have:w.drew.heap[b]?=some (.cells #[p, .slice (some ⟨g,0,none⟩) 0 0] TB (0,0)):=hbk;rw[Lib.cell_of_heap this];rfl
 have hSD:(Builtin.unsafeSliceData_ #[174] 209 #[.slice (some ⟨g,0,none⟩) 0 0]).run prog w.drew= .ok (.pointer (some ⟨w.drew.heap.size,0,none⟩)) (w.drew.alloc (.view ⟨g,0,none⟩ TU)):=
  Lib.run_unsafeSliceData_zero w.drew _ _ TU underlying209 ⟨g,0,none⟩ 0 (TU,cur.size) (by have hg':w.drew.heap[g]?=some (.cells cur TU fz):=hg;simp[World.shape?,hg'])
 have c2:(w.drew.alloc (.view ⟨g,0,none⟩ TU)).cell? ⟨b,1,none⟩=some (.slice (some ⟨g,0,none⟩) 0 0):=by
  have:(w.drew.alloc (.view ⟨g,0,none⟩ TU)).heap[b]?=_:=(Lib.alloc_old w.drew _ b hlt).trans hbk;rw[Lib.cell_of_heap this];rfl
 have c3:(w.alloc (.view ⟨g,0,none⟩ TU)).drew.cell? ⟨b,1,none⟩=some (.slice (some ⟨g,0,none⟩) 0 0):=c2;have c0:w.cell? ⟨b,1,none⟩=some (.slice (some ⟨g,0,none⟩) 0 0):=c1;have hA':=hA.drew.alloc (.view ⟨g,0,none⟩ TU);have hst:Stays b w (w.drew.alloc (.view ⟨g,0,none⟩ TU)):= .of rfl rfl rfl (Nat.le_succ _) (by simp) (Lib.alloc_old w.drew _ b hlt) fun k hk _ _=>Lib.alloc_old w.drew _ k hk;have mixed:prog.follows .mixedOrders=true:=by kernel_rfl
 go_enter func127,ntmps127
 go_wp2
 go_region_o
 all_goals (go_wp2;go_ret;exact⟨rfl,hA',hst⟩)
set_option maxHeartbeats 2000000 in
theorem Zfm(b g cap:Nat)(p:Value)(w:World)(hc0:cap≠0)(hbk:w.heap[b]?=some (.cells #[p, .slice (some ⟨g,0,none⟩) 0 cap] TB (0,0)))(hA:Lib.BuilderAtF TB TU 0 b p [] w):
 Calls prog 127 #[.pointer (some ⟨b,0,none⟩)] w fun e w'=>e= .returned (.string ⟨#[]⟩)/\Lib.BuilderAtF TB TU 0 b p [] w'/\Stays b w w':=by
 have hUS:=Z7o
 have c1:w.drew.cell? ⟨b,1,none⟩=some (.slice (some ⟨g,0,none⟩) 0 cap):=by
  have:w.drew.heap[b]?=some (.cells #[p, .slice (some ⟨g,0,none⟩) 0 cap] TB (0,0)):=hbk;rw[Lib.cell_of_heap this];rfl
 have hSD:(Builtin.unsafeSliceData_ #[174] 209 #[.slice (some ⟨g,0,none⟩) 0 cap]).run prog w.drew= .ok (.pointer (some ⟨g,0,none⟩)) w.drew:=
  Lib.run_unsafeSliceData_row _ _ _ _ _ _ hc0
 clear hc0;have hA':=hA.drew;have hst:=Z0g b w;have mixed:prog.follows .mixedOrders=true:=by kernel_rfl
 go_enter func127,ntmps127
 go_wp2
 go_region_o
 all_goals (go_wp2;go_ret;exact⟨rfl,hA',hst⟩)
theorem ZgB(b:Nat)(l:List UInt8)(w:World)(h:Lib.IsBuilderF TB TU 0 b (Lib.byteCells l) w):
 Calls prog 127 #[.pointer (some ⟨b,0,none⟩)] w fun e w'=>e= .returned (.string ⟨l.toArray⟩)/\Lib.IsBuilderF TB TU 0 b (Lib.byteCells l) w'/\Stays b w w':=by
 by_cases h0:l=[]
 ·subst h0
  have key:∀p,Lib.BuilderAtF TB TU 0 b p [] w->Calls prog 127 #[.pointer (some ⟨b,0,none⟩)] w fun e w'=>e= .returned (.string ⟨#[]⟩)/\Lib.BuilderAtF TB TU 0 b p [] w'/\Stays b w w':=by
   intro p hA;have hA0:=hA;obtain⟨hB,v,hbk,hown,hne⟩:=hA;rcases hown.2 with⟨rfl,_⟩|⟨g,cap,cur,fz,rfl,hbg,hg,_⟩
   ·exact ZgA b p w hbk hA0
   ·by_cases hc:cap=0
    ·subst hc;exact Zbz b g p cur w hbk fz hg hA0
    ·exact Zfm b g cap p w hc hbk hA0
  rcases h with h|h
  ·exact(key _ h).mono fun e w' ⟨h1,h2,h3⟩=>⟨h1, .inl h2,h3⟩
  ·exact(key _ h).mono fun e w' ⟨h1,h2,h3⟩=>⟨h1, .inr h2,h3⟩
 ·exact Zfl b l w h h0
theorem Z2A(l:List UInt8):Does prog tab 127 1 [.ptr (.loc 0) 0 0 0] [(0, .bld TB TU l)] [] fun r O nx=>r= .str l/\O=[(0, .bld TB TU l)]/\nx=1:=by
 refine Z4Q call127 fun η b vs w hd hB=>?_;simp only[DenL]at hd;subst hd;refine(ZgB b l w hB).mono fun e w'=>?_;rintro⟨rfl,h1,h2⟩;exact⟨_,rfl,by simp only[Den],h1,h2⟩
open Tryz
theorem Zer{b:Nat}{w:World}{p v:Value}(h:w.heap[b]?=some (.cells #[p,v] TB (0,0))){k:Nat}(hk:kid w b (.bld TB TU []) k):v.ownBlock=some k:=by
 simp only[kid]at hk;obtain⟨arr,T,fz,u,k1,k2,k3⟩:=hk;rw[h]at k1;injection k1 with k1;injection k1 with k1;subst k1;simp at k2;subst k2;exact k3
set_option maxHeartbeats 2000000 in
theorem ZgC(b cap n:Nat)(ao:Option Addr)(w:World)(hbk:w.heap[b]?=some (.cells #[.pointer (some ⟨b,0,none⟩), .slice ao 0 cap] TB (0,0)))(hc:cap<=n)(hn:n<=35184372088832):
 Calls prog 157 #[.pointer (some ⟨b,0,none⟩), .int .i64 n] w fun e w'=>e= .returned (.tuple #[])/\Lib.BuilderAtF TB TU 0 b (.pointer (some ⟨b,0,none⟩)) [] w'/\Stays b w w':=by
 obtain⟨cs,hrun,hle,hmax⟩:=Lib.run_makeNoZero (P:=prog) w.drew #[3] 174 TU underlying174 (2*cap+n) (by omega);have hmax:=hmax (by unfold maxLen;omega);have hlt:b<w.heap.size:=(Array.getElem?_eq_some_iff.1 hbk).1
 have hw:IntKind.i64.wrap (IntKind.i64.wrap (2*(cap:Int))+(n:Int))=((2*cap+n:Nat):Int):=by
  rw[IntKind.wrap_i64,IntKind.wrap_i64];omega
 have hcall:(callFunc 183 #[.int .i64 (IntKind.i64.wrap (IntKind.i64.wrap (2*(cap:Int))+(n:Int)))]).run prog w.drew= .ok (.value (.slice (some ⟨w.drew.heap.size,0,none⟩) (2*cap+n) cs.size)) (w.drew.drew.drew.alloc (.cells cs TU)):=by
  rw[hw,run_callFunc_extern func183 (by kernel_rfl) (by kernel_rfl) (by kernel_rfl) (e:=Extern.BytealgMakeNoZero.makeNoZero #[3] #[174]) (by kernel_rfl),hrun]
  rfl
 have c1:w.drew.cell? ⟨b,1,none⟩=some (.slice ao 0 cap):=by
  have:w.drew.heap[b]?=_:=hbk;rw[Lib.cell_of_heap this];rfl
 have hb2:(w.alloc (.cells cs TU)).heap[b]?=some (.cells #[.pointer (some ⟨b,0,none⟩), .slice ao 0 cap] TB (0,0)):=(Lib.alloc_old w _ b hlt).trans hbk;have c2:(w.alloc (.cells cs TU)).cell? ⟨b,1,none⟩=some (.slice ao 0 cap):=by rw[Lib.cell_of_heap hb2];rfl
 have f2:(w.alloc (.cells cs TU)).frozen? ⟨b,1,none⟩=false:=Lib.frozen_of_heap hb2 1
 have hcopy:∀W:World,(Builtin.copy_ #[174,174] 3 #[.slice (some ⟨w.heap.size,0,none⟩) 0 cs.size, .slice ao 0 cap]).run prog W= .ok (goInt 0) W:=
  fun W=>run_copy_none W 174 174 3 TU _ _ 0 cs.size 0 cap underlying174 (by kernel_rfl) rfl
 have hown:(w.alloc (.cells cs TU)).ownsRowF 0 TU 1 (.slice (some ⟨w.heap.size,0,none⟩) 0 cs.size) ([]:List Value).length []:=
  ⟨rfl, .inr ⟨w.heap.size,cs.size,cs,(0,0),rfl,Nat.zero_le _,heap_alloc_new w _,Nat.le_refl _,Nat.zero_le _,hmax,by simp,by simp⟩⟩
 have hA:=(((Lib.BuilderAtF.put (Nat.zero_le b) hb2 hown (by decide)).drew).drew).drew
 have hset:((w.alloc (.cells cs TU)).setCell ⟨b,1,none⟩ (.slice (some ⟨w.heap.size,0,none⟩) 0 cs.size)).heap[b]?=some (.cells #[.pointer (some ⟨b,0,none⟩), .slice (some ⟨w.heap.size,0,none⟩) 0 cs.size] TB (0,0)):=by
  simp[World.setCell,Array.getElem?_modify,hb2]
 have hst:Stays b w ((w.alloc (.cells cs TU)).setCell ⟨b,1,none⟩ (.slice (some ⟨w.heap.size,0,none⟩) 0 cs.size)).drew.drew.drew:=by
  refine⟨rfl,rfl,rfl,Nat.le_add_right w.drawn 3,?_,fun k hk hkb _=>?_,fun k hk=>?_⟩
  ·show w.heap.size<=((w.alloc (.cells cs TU)).setCell ⟨b,1,none⟩ (.slice (some ⟨w.heap.size,0,none⟩) 0 cs.size)).heap.size
   simp[World.setCell]
  ·show((w.alloc (.cells cs TU)).setCell ⟨b,1,none⟩ (.slice (some ⟨w.heap.size,0,none⟩) 0 cs.size)).heap[k]?=w.heap[k]?
   rw[Below.heap_setCell _ _ _ _ (fun e=>hkb (by simp[e]))];exact Lib.alloc_old w _ k hk
  ·have h1:=Zer (w:=((w.alloc (.cells cs TU)).setCell ⟨b,1,none⟩ (.slice (some ⟨w.heap.size,0,none⟩) 0 cs.size)).drew.drew.drew) hset hk;simp only[Value.ownBlock,Option.some.injEq]at h1;exact .inr (by omega)
 rw[World.setCell_alloc_past _ _ _ _ hlt]at hA hst;clear hw;have mixed:prog.follows .mixedOrders=true:=by kernel_rfl
 go_enter func157,ntmps157
 go_wp2
 go_region_o
 all_goals (go_wp2;go_end0;exact⟨rfl,hA,hst⟩)
open Tryz
theorem Stays.trans{b:Nat}{u v w:World}(h:Stays b u v)(k:Stays b v w)(hk:∀x,kid v b (.bld TB TU []) x->kid u b (.bld TB TU []) x\/u.heap.size<=x):Stays b u w:=
 ⟨k.os.trans h.os,k.tape.trans h.tape,k.output.trans h.output,Nat.le_trans h.drawn k.drawn,Nat.le_trans h.size k.size,fun x hx hxb hxk=>(k.block x (Nat.lt_of_lt_of_le hx h.size) hxb (fun f=>(hk x f).elim hxk (fun g=>Nat.lt_irrefl _ (Nat.lt_of_lt_of_le hx g)))).trans (h.block x hx hxb hxk),fun x f=>(k.kids x f).elim (hk x) (fun g=> .inr (Nat.le_trans h.size g))⟩
theorem Zdv(b:Nat)(l:List Value)(w:World)(h:Lib.IsBuilderF TB TU 0 b l w):
 Calls prog 155 #[.pointer (some ⟨b,0,none⟩)] w fun e w'=>e= .returned (.tuple #[])/\Lib.BuilderAtF TB TU 0 b (.pointer (some ⟨b,0,none⟩)) l w'/\Stays b w w':=by
 refine(Zeq b l w h).mono ?_;rintro e w' ⟨rfl,h1,h2⟩;refine⟨rfl,h1,?_⟩;rcases h2 with rfl|rfl
 ·exact⟨rfl,rfl,rfl,Nat.le_refl _,Nat.le_refl _,fun _ _ _ _=>rfl,fun _ f=> .inl f⟩
 ·refine⟨rfl,rfl,rfl,Nat.le_refl _,by simp[World.setCell],fun k _ hk _=>Below.heap_setCell _ _ _ _ (fun e=>hk (by simp[e])),fun k f=> .inl ?_⟩;obtain⟨_,v,hbk,_,_⟩:=h1;have hv:=Zer hbk f;simp only[World.setCell,Array.getElem?_modify,if_pos,Option.map_eq_some_iff]at hbk;obtain⟨o,ho,hoc⟩:=hbk;cases o with
  |cells arr T fz=>
   simp only[Obj.cells.injEq]at hoc;obtain⟨a1,a2,a3⟩:=hoc;refine⟨arr,T,fz,v,ho,?_,hv⟩;have:=congrArg (fun a=>a[1]?) a1;simpa using this
  |_=>cases hoc
set_option maxHeartbeats 2000000 in
theorem ZgD(b n:Nat)(w:World)(h:Lib.IsBuilderF TB TU 0 b [] w)(hn:n<=35184372088832):
 Calls prog 129 #[.pointer (some ⟨b,0,none⟩), .int .i64 n] w fun e w'=>e= .returned (.tuple #[])/\Lib.BuilderAtF TB TU 0 b (.pointer (some ⟨b,0,none⟩)) [] w'/\Stays b w w':=by
 have mixed:prog.follows .mixedOrders=true:=by kernel_rfl
 go_enter func129,ntmps129
 go_wp2_with (go_at_call 155;refine(Zdv b _ _ h).mono ?_)
 rintro e w1 ⟨rfl,h1,hs⟩;have hA:=h1;obtain⟨hB,v,hbk,hown,hne⟩:=h1
 obtain⟨ao,cap,rfl,hcm⟩:∃ao cap,v= .slice ao 0 cap/\cap<=maxLen:=by
  rcases hown.2 with⟨hv,_⟩|⟨g,cap,cur,fz,hv,_,_,_,_,hcm,_⟩
  ·exact⟨none,0,hv,Nat.zero_le _⟩
  ·exact⟨_,_,hv,hcm⟩
 unfold maxLen at hcm
 replace hcm:cap<=9223372036854775807:=by omega
 have c1:w1.cell? ⟨b,1,none⟩=some (.slice ao 0 cap):=by rw[Lib.cell_of_heap hbk];rfl
 have c1':w1.drew.cell? ⟨b,1,none⟩=some (.slice ao 0 cap):=c1;have hs':Stays b w w1.drew:=hs.trans (Z0g b w1) (fun x f=>hs.kids x f)
 go_wp2
 go_region_o
 all_goals
  by_cases hcn:cap<n
  ·go_wp2_with (go_at_call 157;refine(ZgC b cap n ao w1.drew hbk (Nat.le_of_lt hcn) hn).mono ?_;rintro e w2 ⟨rfl,h3,h4⟩)
   go_end0
   exact⟨rfl,h3,hs'.trans h4 hs'.kids⟩
  ·go_wp2
   go_end0
   exact⟨rfl,hA.drew,hs'⟩
theorem ZbD(n:Nat)(hn:n<=35184372088832):Does prog tab 129 1 [.ptr (.loc 0) 0 0 0, .int .i64 (n:Int)] [(0, .bld TB TU [])] [] fun r O nx=>r= .tup []/\O=[(0, .bld TB TU [])]/\nx=1:=by
 refine Z4Q call129 fun η b vs w hd hB=>?_;simp only[DenL,Den]at hd;obtain⟨u,us,rfl,rfl,rfl⟩:=hd;refine(ZgD b n w hB hn).mono fun e w'=>?_;rintro⟨rfl,h1,h2⟩;exact⟨_,rfl,by simp only[Den,DenL];exact⟨_,rfl,rfl⟩, .inr h1,h2⟩
end Go.Proofs.YtbfbokdccdagkaaGreatDoor
